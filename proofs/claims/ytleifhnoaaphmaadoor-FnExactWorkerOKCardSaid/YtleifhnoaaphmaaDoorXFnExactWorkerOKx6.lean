-- Printed by this session's own program wip/tools/xprint.py, which widens the kit's print. Not trusted: Lean checks it.
import Derived.Test.YtleifhnoaaphmaaDoorXFnExactWorkerOKx0
import Derived.Test.YtleifhnoaaphmaaDoorXFnExactWorkerOKx2
import Derived.Test.YtleifhnoaaphmaaDoorXFnExactWorkerOKx4
import Derived.Test.YtleifhnoaaphmaaDoorXFnExactWorkerOKx5
import Derived.Test.YtleifhnoaaphmaaDoorXFnExactWorkerOKx6a
namespace Go.Proofs.YtleifhnoaaphmaaDoor.XFnExactWorkerOK
open List (setIfInBounds_toArray set_cons_zero set_cons_succ)
open Go.RowKit Go.Proofs.YtleifhnoaaphmaaDoorW.PrintWords Go.Proofs.YtleifhnoaaphmaaDoorW.PrintLast Go.Proofs.YtleifhnoaaphmaaDoorW.PrintMore
attribute [local go_sem] max2_int min2_int max_two min_two max_three min_three max_four min_four   -- for this text's walks alone
set_option linter.unusedVariables false
set_option linter.unusedSimpArgs false

set_option maxHeartbeats 8000000 in
set_option maxRecDepth 100000 in
noncomputable def spec_WorkerOK_cut2 : PSigma (fun M_ : Prop => CutW M_ → spec_WorkerOK_cut1.1) := by
          apply PSigma.mk
          case snd =>
           intro hm_
           intro k a0_0 a0_1 a0_2 a0_3 a0_4 a0_5 a0_6 a0_7 a0_8 A0_9 c0_9 l0_9 a0_10 a0_11 a0_12 a0_13 a0_14 a0_15 r w hu51 hu84 hu47 hu49 HR0_9 HC0_9 zq1_1 gb181 w2 zq1_2 zq1_3 GW181 GE181 zq1_4 zq1_5 wr u2 u4 u6 u7 u8 u9 u10 u11 u12 u13 u14 u15 u16 u17 u18 u19 u20 u21 u22 u23 u24 u25 u26 u27 u28 zq1_6 zq1_7 zq1_8 x3_1 BK181 HB k1 zq1_9 HK1 c3b0 A18 A20 t188 A22 A23 A17 H A26 c28b0 c28b1
           by_cases c29 : a0_3 = 3
           ·rw [if_pos c29] at H
            have c29b0 : (a0_3 == 3) = true := beq_iff_eq.mpr c29
            have c29b1 : (a0_3 != 3) = false := bne_eq_false_iff_eq.mpr c29
            clear c29
            replace H := Option.bind_eq_some_iff.mp H
            obtain ⟨t191,A300,H⟩ := H
            try dsimp only at H
            have A30 := Aside0.mk A300
            clear A300
            by_cases c31 : t191 = true
            ·subst c31
             rw [if_pos rfl] at H
             by_cases c32 : a0_10 ≤ 1000
             ·rw [if_pos c32] at H
              have c32b0 : decide (a0_10 ≤ 1000) = true := decide_eq_true c32
              clear c32
              obtain rfl := Option.some.inj H
              have hcz33_0 : wr.cell? ⟨gb181,0,none⟩ = some (.int .i64 a0_0) := (blk_cell BK181.out 0).trans rfl
              have hcz33_1 : wr.cell? ⟨gb181,1,none⟩ = some (.int .i64 a0_1) := (blk_cell BK181.out 1).trans rfl
              have hcz33_2 : wr.cell? ⟨gb181,2,none⟩ = some (.int .i64 a0_2) := (blk_cell BK181.out 2).trans rfl
              have hcz33_3 : wr.cell? ⟨gb181,3,none⟩ = some (.int .i64 a0_3) := (blk_cell BK181.out 3).trans rfl
              have hcz33_4 : wr.cell? ⟨gb181,4,none⟩ = some (.int .i64 a0_4) := (blk_cell BK181.out 4).trans rfl
              have hcz33_5 : wr.cell? ⟨gb181,5,none⟩ = some (.int .i64 a0_5) := (blk_cell BK181.out 5).trans rfl
              have hcz33_6 : wr.cell? ⟨gb181,6,none⟩ = some (.int .i64 a0_6) := (blk_cell BK181.out 6).trans rfl
              have hcz33_7 : wr.cell? ⟨gb181,7,none⟩ = some (.int .i64 a0_7) := (blk_cell BK181.out 7).trans rfl
              have hcz33_8 : wr.cell? ⟨gb181,8,none⟩ = some (.string a0_8) := (blk_cell BK181.out 8).trans rfl
              have hcz33_9 : wr.cell? ⟨gb181,9,none⟩ = some (.slice A0_9 l0_9.length c0_9) := (blk_cell BK181.out 9).trans rfl
              have hcz33_10 : wr.cell? ⟨gb181,10,none⟩ = some (.int .i64 a0_10) := (blk_cell BK181.out 10).trans rfl
              have hcz33_11 : wr.cell? ⟨gb181,11,none⟩ = some (.int .i64 a0_11) := (blk_cell BK181.out 11).trans rfl
              have hcz33_12 : wr.cell? ⟨gb181,12,none⟩ = some (.int .i64 a0_12) := (blk_cell BK181.out 12).trans rfl
              have hcz33_13 : wr.cell? ⟨gb181,13,none⟩ = some (.int .i64 a0_13) := (blk_cell BK181.out 13).trans rfl
              have hcz33_14 : wr.cell? ⟨gb181,14,none⟩ = some (.int .i64 a0_14) := (blk_cell BK181.out 14).trans rfl
              have hcz33_15 : wr.cell? ⟨gb181,15,none⟩ = some (.int .i64 a0_15) := (blk_cell BK181.out 15).trans rfl
              have hfz33_0 := blk_frozen BK181.out 0
              have hfz33_1 := blk_frozen BK181.out 1
              have hfz33_2 := blk_frozen BK181.out 2
              have hfz33_3 := blk_frozen BK181.out 3
              have hfz33_4 := blk_frozen BK181.out 4
              have hfz33_5 := blk_frozen BK181.out 5
              have hfz33_6 := blk_frozen BK181.out 6
              have hfz33_7 := blk_frozen BK181.out 7
              have hfz33_8 := blk_frozen BK181.out 8
              have hfz33_9 := blk_frozen BK181.out 9
              have hfz33_10 := blk_frozen BK181.out 10
              have hfz33_11 := blk_frozen BK181.out 11
              have hfz33_12 := blk_frozen BK181.out 12
              have hfz33_13 := blk_frozen BK181.out 13
              have hfz33_14 := blk_frozen BK181.out 14
              have hfz33_15 := blk_frozen BK181.out 15
              try go_wp2_with (first | ((with_reducible refine gate_callee (f:=46) rfl ?_); refine goesL_ (some 31) rfl rfl Tryd.func46 (by kernel_rfl) rfl #[.int .i64 a0_1,.int .i64 4,.int .i64 6] rfl mA ?_; (with_reducible refine (spec_l01In.calls a0_1 4 6 true _ A17.out).mono ?_); rintro e w' ⟨rfl,⟨nd,rfl⟩⟩; refine ⟨_,rfl,?_⟩))
              (try (rw [drewN_self wr]; generalize hq_ : World.drewN wr _ = wr; have n0_ : Aside0 (wr.heap[gb181]? = some (.cells #[.int .i64 a0_0,.int .i64 a0_1,.int .i64 a0_2,.int .i64 a0_3,.int .i64 a0_4,.int .i64 a0_5,.int .i64 a0_6,.int .i64 a0_7,.string a0_8,.slice A0_9 l0_9.length c0_9,.int .i64 a0_10,.int .i64 a0_11,.int .i64 a0_12,.int .i64 a0_13,.int .i64 a0_14,.int .i64 a0_15] 51 (0,0))) := ⟨by rw [← hq_]; exact (kA BK181.out)⟩; have n1_ : Aside0 (Below w.heap.size w wr) := ⟨by rw [← hq_]; exact bA⟩; clear BK181 HB hq_; have BK181 := n0_; have HB := n1_; clear n0_ n1_))
              have n0_ := Aside0.mk (blk_drew BK181.out)
              have n1_ := Aside0.mk (below_drew1 HB.out)
              clear BK181
              clear HB
              have BK181 := n0_
              have HB := n1_
              clear n0_ n1_
              refine start_ (n:=69) (S:=fun w' => w'.cell? ⟨gb181,0,none⟩ = some (.int .i64 a0_0) ∧ w'.cell? ⟨gb181,1,none⟩ = some (.int .i64 a0_1) ∧ w'.cell? ⟨gb181,2,none⟩ = some (.int .i64 a0_2) ∧ w'.cell? ⟨gb181,3,none⟩ = some (.int .i64 a0_3) ∧ w'.cell? ⟨gb181,4,none⟩ = some (.int .i64 a0_4) ∧ w'.cell? ⟨gb181,5,none⟩ = some (.int .i64 a0_5) ∧ w'.cell? ⟨gb181,6,none⟩ = some (.int .i64 a0_6) ∧ w'.cell? ⟨gb181,7,none⟩ = some (.int .i64 a0_7) ∧ w'.cell? ⟨gb181,8,none⟩ = some (.string a0_8) ∧ w'.cell? ⟨gb181,9,none⟩ = some (.slice A0_9 l0_9.length c0_9) ∧ w'.cell? ⟨gb181,10,none⟩ = some (.int .i64 a0_10) ∧ w'.cell? ⟨gb181,11,none⟩ = some (.int .i64 a0_11) ∧ w'.cell? ⟨gb181,12,none⟩ = some (.int .i64 a0_12) ∧ w'.cell? ⟨gb181,13,none⟩ = some (.int .i64 a0_13) ∧ w'.cell? ⟨gb181,14,none⟩ = some (.int .i64 a0_14) ∧ w'.cell? ⟨gb181,15,none⟩ = some (.int .i64 a0_15)) (ds := []) (bm 69 0) (by kernel_rfl) rfl rfl ⟨(blk_cell BK181.out 0).trans rfl,(blk_cell BK181.out 1).trans rfl,(blk_cell BK181.out 2).trans rfl,(blk_cell BK181.out 3).trans rfl,(blk_cell BK181.out 4).trans rfl,(blk_cell BK181.out 5).trans rfl,(blk_cell BK181.out 6).trans rfl,(blk_cell BK181.out 7).trans rfl,(blk_cell BK181.out 8).trans rfl,(blk_cell BK181.out 9).trans rfl,(blk_cell BK181.out 10).trans rfl,(blk_cell BK181.out 11).trans rfl,(blk_cell BK181.out 12).trans rfl,(blk_cell BK181.out 13).trans rfl,(blk_cell BK181.out 14).trans rfl,(blk_cell BK181.out 15).trans rfl⟩ (fun hHeld => ?_); refine with_tabW spec_WorkerOK.tab8 spec_WorkerOK.bits8 (fun HT_ HW_ => ?_)
              generalize wr.drew = w34 at BK181 HB hHeld ⊢
              refine pV_ 0 32 (bm 69 1) HT_.out ?_
              refine take_ (i:=1) (N:=some 33) (v:=?_) (a':=?_) (bm 69 3) rfl rfl (take_ofW HT_.out HW_.out (by kernel_rfl)) (fun _ _ _ h => h) (Or.inl ⟨by rfl,?_⟩) hHeld ?_ ?_
              rotate_left
              ·rintro w' ⟨s0,s1,s2,s3,s4,s5,s6,s7,s8,s9,s10,s11,s12,s13,s14,s15⟩
               go_simp
               with_reducible rfl
              rotate_left
              ·simp only [Act.put,setIfInBounds_toArray,set_cons_zero,set_cons_succ,i64_w,i32_w]
               rfl
              refine one_ (i:=2) (N:=some 34) (bm 69 7) rfl rfl (one_of HT_.out (by kernel_rfl)) (by decide) (fun K hK => ?_)
              refine goes_ Tryd.func46 (by kernel_rfl) rfl #[.int .i64 a0_0,.int .i64 0,.int .i64 9] (by rfl) rfl rfl mA ?_
              with_reducible refine (spec_l01In.calls a0_0 0 9 true _ A18.out).mono ?_
              rintro e w' ⟨rfl,⟨nd,rfl⟩⟩
              refine ⟨_,rfl,?_⟩
              refine hK.out _ _ ⟨(blk_cell BK181.out 0).trans rfl,(blk_cell BK181.out 1).trans rfl,(blk_cell BK181.out 2).trans rfl,(blk_cell BK181.out 3).trans rfl,(blk_cell BK181.out 4).trans rfl,(blk_cell BK181.out 5).trans rfl,(blk_cell BK181.out 6).trans rfl,(blk_cell BK181.out 7).trans rfl,(blk_cell BK181.out 8).trans rfl,(blk_cell BK181.out 9).trans rfl,(blk_cell BK181.out 10).trans rfl,(blk_cell BK181.out 11).trans rfl,(blk_cell BK181.out 12).trans rfl,(blk_cell BK181.out 13).trans rfl,(blk_cell BK181.out 14).trans rfl,(blk_cell BK181.out 15).trans rfl⟩ (fun hHeld => ?_)
              clear hK K
              refine norm_ (a':=?_) ?_ ?_
              rotate_left
              ·show Act.put _ (some 34) _ = _
               simp only [Act.put,setIfInBounds_toArray,set_cons_zero,set_cons_succ,i64_w,i32_w]
               rfl
              refine pV_ 3 35 (bm 69 15) HT_.out ?_
              refine pV_ 4 36 (bm 69 31) HT_.out ?_
              refine take_ (i:=5) (N:=some 37) (v:=?_) (a':=?_) (bm 69 63) rfl rfl (take_ofW HT_.out HW_.out (by kernel_rfl)) (fun _ _ _ h => h) (Or.inl ⟨by rfl,?_⟩) hHeld ?_ ?_
              rotate_left
              ·rintro w' ⟨s0,s1,s2,s3,s4,s5,s6,s7,s8,s9,s10,s11,s12,s13,s14,s15⟩
               go_simp
               with_reducible rfl
              rotate_left
              ·simp only [Act.put,setIfInBounds_toArray,set_cons_zero,set_cons_succ,i64_w,i32_w]
               rfl
              refine one_ (i:=6) (N:=some 38) (bm 69 127) rfl rfl (one_of HT_.out (by kernel_rfl)) (by decide) (fun K hK => ?_)
              refine goes_ Tryd.func46 (by kernel_rfl) rfl #[.int .i64 a0_1,.int .i64 0,.int .i64 7] (by rfl) rfl rfl mA ?_
              with_reducible refine (spec_l01In.calls a0_1 0 7 true _ A20.out).mono ?_
              rintro e w' ⟨rfl,⟨nd,rfl⟩⟩
              refine ⟨_,rfl,?_⟩
              refine hK.out _ _ ⟨(blk_cell BK181.out 0).trans rfl,(blk_cell BK181.out 1).trans rfl,(blk_cell BK181.out 2).trans rfl,(blk_cell BK181.out 3).trans rfl,(blk_cell BK181.out 4).trans rfl,(blk_cell BK181.out 5).trans rfl,(blk_cell BK181.out 6).trans rfl,(blk_cell BK181.out 7).trans rfl,(blk_cell BK181.out 8).trans rfl,(blk_cell BK181.out 9).trans rfl,(blk_cell BK181.out 10).trans rfl,(blk_cell BK181.out 11).trans rfl,(blk_cell BK181.out 12).trans rfl,(blk_cell BK181.out 13).trans rfl,(blk_cell BK181.out 14).trans rfl,(blk_cell BK181.out 15).trans rfl⟩ (fun hHeld => ?_)
              clear hK K
              refine norm_ (a':=?_) ?_ ?_
              rotate_left
              ·show Act.put _ (some 38) _ = _
               simp only [Act.put,setIfInBounds_toArray,set_cons_zero,set_cons_succ,i64_w,i32_w]
               rfl
              refine pV_ 7 39 (bm 69 255) HT_.out ?_
              refine pV_ 8 40 (bm 69 511) HT_.out ?_
              refine pV_ 9 41 (bm 69 1023) HT_.out ?_
              refine pV_ 11 43 (bm 69 3071) HT_.out ?_
              refine take_ (i:=10) (N:=some 42) (v:=?_) (a':=?_) (bm 69 4095) rfl rfl (take_ofW HT_.out HW_.out (by kernel_rfl)) (fun _ _ _ h => h) (Or.inl ⟨by rfl,?_⟩) hHeld ?_ ?_
              rotate_left
              ·rintro w' ⟨s0,s1,s2,s3,s4,s5,s6,s7,s8,s9,s10,s11,s12,s13,s14,s15⟩
               go_simp
               with_reducible rfl
              rotate_left
              ·simp only [Act.put,setIfInBounds_toArray,set_cons_zero,set_cons_succ,i64_w,i32_w]
               rfl
              refine take_ (i:=12) (N:=some 44) (v:=?_) (a':=?_) (bm 69 8191) rfl rfl (take_ofW HT_.out HW_.out (by kernel_rfl)) (fun _ _ _ h => h) (Or.inl ⟨by rfl,?_⟩) hHeld ?_ ?_
              rotate_left
              ·rintro w' ⟨s0,s1,s2,s3,s4,s5,s6,s7,s8,s9,s10,s11,s12,s13,s14,s15⟩
               go_simp
               with_reducible rfl
              rotate_left
              ·simp only [Act.put,setIfInBounds_toArray,set_cons_zero,set_cons_succ,i64_w,i32_w]
               rfl
              refine pV_ 13 45 (bm 69 16383) HT_.out ?_
              refine one_ (i:=14) (N:=some 46) (bm 69 32767) rfl rfl (one_of HT_.out (by kernel_rfl)) (by decide) (fun K hK => ?_)
              refine goes_ Tryd.func47 (by kernel_rfl) rfl #[.bool (decide (a0_1 > 1))] (by rfl) rfl rfl mA ?_
              with_reducible refine (spec_l01Bit.calls (decide (a0_1 > 1)) t188 _ A22.out).mono ?_
              rintro e w' ⟨rfl,⟨nd,rfl⟩⟩
              refine ⟨_,rfl,?_⟩
              refine hK.out _ _ ⟨(blk_cell BK181.out 0).trans rfl,(blk_cell BK181.out 1).trans rfl,(blk_cell BK181.out 2).trans rfl,(blk_cell BK181.out 3).trans rfl,(blk_cell BK181.out 4).trans rfl,(blk_cell BK181.out 5).trans rfl,(blk_cell BK181.out 6).trans rfl,(blk_cell BK181.out 7).trans rfl,(blk_cell BK181.out 8).trans rfl,(blk_cell BK181.out 9).trans rfl,(blk_cell BK181.out 10).trans rfl,(blk_cell BK181.out 11).trans rfl,(blk_cell BK181.out 12).trans rfl,(blk_cell BK181.out 13).trans rfl,(blk_cell BK181.out 14).trans rfl,(blk_cell BK181.out 15).trans rfl⟩ (fun hHeld => ?_)
              clear hK K
              refine norm_ (a':=?_) ?_ ?_
              rotate_left
              ·show Act.put _ (some 46) _ = _
               simp only [Act.put,setIfInBounds_toArray,set_cons_zero,set_cons_succ,i64_w,i32_w]
               rfl
              refine one_ (i:=15) (N:=some 47) (bm 69 65535) rfl rfl (one_of HT_.out (by kernel_rfl)) (by decide) (fun K hK => ?_)
              refine goes_ Tryd.func46 (by kernel_rfl) rfl #[.int .i64 a0_2,.int .i64 t188,.int .i64 999999] (by rfl) rfl rfl mA ?_
              with_reducible refine (spec_l01In.calls a0_2 t188 999999 true _ A23.out).mono ?_
              rintro e w' ⟨rfl,⟨nd,rfl⟩⟩
              refine ⟨_,rfl,?_⟩
              refine hK.out _ _ ⟨(blk_cell BK181.out 0).trans rfl,(blk_cell BK181.out 1).trans rfl,(blk_cell BK181.out 2).trans rfl,(blk_cell BK181.out 3).trans rfl,(blk_cell BK181.out 4).trans rfl,(blk_cell BK181.out 5).trans rfl,(blk_cell BK181.out 6).trans rfl,(blk_cell BK181.out 7).trans rfl,(blk_cell BK181.out 8).trans rfl,(blk_cell BK181.out 9).trans rfl,(blk_cell BK181.out 10).trans rfl,(blk_cell BK181.out 11).trans rfl,(blk_cell BK181.out 12).trans rfl,(blk_cell BK181.out 13).trans rfl,(blk_cell BK181.out 14).trans rfl,(blk_cell BK181.out 15).trans rfl⟩ (fun hHeld => ?_)
              clear hK K
              refine norm_ (a':=?_) ?_ ?_
              rotate_left
              ·show Act.put _ (some 47) _ = _
               simp only [Act.put,setIfInBounds_toArray,set_cons_zero,set_cons_succ,i64_w,i32_w]
               rfl
              refine pV_ 16 48 (bm 69 131071) HT_.out ?_
              refine pV_ 17 49 (bm 69 262143) HT_.out ?_
              refine pV_ 18 50 (bm 69 524287) HT_.out ?_
              refine pV_ 19 51 (bm 69 1048575) HT_.out ?_
              refine pV_ 20 52 (bm 69 2097151) HT_.out ?_
              refine pV_ 21 53 (bm 69 4194303) HT_.out ?_
              refine take_ (i:=22) (N:=some 54) (v:=?_) (a':=?_) (bm 69 8388607) rfl rfl (take_ofW HT_.out HW_.out (by kernel_rfl)) (fun _ _ _ h => h) (Or.inl ⟨by rfl,?_⟩) hHeld ?_ ?_
              rotate_left
              ·rintro w' ⟨s0,s1,s2,s3,s4,s5,s6,s7,s8,s9,s10,s11,s12,s13,s14,s15⟩
               go_simp
               with_reducible rfl
              rotate_left
              ·simp only [Act.put,setIfInBounds_toArray,set_cons_zero,set_cons_succ,i64_w,i32_w]
               rfl
              refine one_ (i:=23) (N:=some 55) (bm 69 16777215) rfl rfl (one_of HT_.out (by kernel_rfl)) (by decide) (fun K hK => ?_)
              refine goes_ Tryd.func48 (by kernel_rfl) rfl #[.agg #[.int .i64 a0_3,.int .i64 a0_4,.int .i64 a0_5,.int .i64 a0_6,.int .i64 a0_7,.string a0_8]] (by rfl) rfl rfl mA ?_
              with_reducible refine (spec_RecordOK.calls k1 a0_3 a0_4 a0_5 a0_6 a0_7 a0_8 true _ A26.out).mono ?_
              rintro e w35 ⟨rfl,hb⟩
              refine ⟨_,rfl,?_⟩
              have n0_ := Aside0.mk (blk_below (g:=gb181) (o:=.cells #[.int .i64 a0_0,.int .i64 a0_1,.int .i64 a0_2,.int .i64 a0_3,.int .i64 a0_4,.int .i64 a0_5,.int .i64 a0_6,.int .i64 a0_7,.string a0_8,.slice A0_9 l0_9.length c0_9,.int .i64 a0_10,.int .i64 a0_11,.int .i64 a0_12,.int .i64 a0_13,.int .i64 a0_14,.int .i64 a0_15] 51 (0,0)) (kA BK181.out) hb)
              have n1_ := Aside0.mk (below_step bA hb)
              clear BK181
              clear HB
              have BK181 := n0_
              have HB := n1_
              clear n0_ n1_
              (try clear hb)
              (try clear hb2)
              (try clear hk)
              (try clear hi)
              refine hK.out _ _ ⟨(blk_cell BK181.out 0).trans rfl,(blk_cell BK181.out 1).trans rfl,(blk_cell BK181.out 2).trans rfl,(blk_cell BK181.out 3).trans rfl,(blk_cell BK181.out 4).trans rfl,(blk_cell BK181.out 5).trans rfl,(blk_cell BK181.out 6).trans rfl,(blk_cell BK181.out 7).trans rfl,(blk_cell BK181.out 8).trans rfl,(blk_cell BK181.out 9).trans rfl,(blk_cell BK181.out 10).trans rfl,(blk_cell BK181.out 11).trans rfl,(blk_cell BK181.out 12).trans rfl,(blk_cell BK181.out 13).trans rfl,(blk_cell BK181.out 14).trans rfl,(blk_cell BK181.out 15).trans rfl⟩ (fun hHeld => ?_)
              clear hK K
              refine norm_ (a':=?_) ?_ ?_
              rotate_left
              ·show Act.put _ (some 55) _ = _
               simp only [Act.put,setIfInBounds_toArray,set_cons_zero,set_cons_succ,i64_w,i32_w]
               rfl
              refine pV_ 24 56 (bm 69 33554431) HT_.out ?_
              refine pV_ 25 57 (bm 69 67108863) HT_.out ?_
              refine pV_ 26 58 (bm 69 134217727) HT_.out ?_
              refine pV_ 28 60 (bm 69 402653183) HT_.out ?_
              refine take_ (i:=27) (N:=some 59) (v:=?_) (a':=?_) (bm 69 536870911) rfl rfl (take_ofW HT_.out HW_.out (by kernel_rfl)) (fun _ _ _ h => h) (Or.inl ⟨by rfl,?_⟩) hHeld ?_ ?_
              rotate_left
              ·rintro w' ⟨s0,s1,s2,s3,s4,s5,s6,s7,s8,s9,s10,s11,s12,s13,s14,s15⟩
               go_simp
               with_reducible rfl
              rotate_left
              ·simp only [Act.put,setIfInBounds_toArray,set_cons_zero,set_cons_succ,i64_w,i32_w]
               rfl
              refine take_ (i:=29) (N:=some 61) (v:=?_) (a':=?_) (bm 69 1073741823) rfl rfl (take_ofW HT_.out HW_.out (by kernel_rfl)) (fun _ _ _ h => h) (Or.inl ⟨by rfl,?_⟩) hHeld ?_ ?_
              rotate_left
              ·rintro w' ⟨s0,s1,s2,s3,s4,s5,s6,s7,s8,s9,s10,s11,s12,s13,s14,s15⟩
               go_simp
               with_reducible rfl
              rotate_left
              ·simp only [Act.put,setIfInBounds_toArray,set_cons_zero,set_cons_succ,i64_w,i32_w]
               rfl
              refine pV_ 30 62 (bm 69 2147483647) HT_.out ?_
              refine pV_ 31 63 (bm 69 4294967295) HT_.out ?_
              refine pV_ 32 64 (bm 69 8589934591) HT_.out ?_
              refine pV_ 33 65 (bm 69 17179869183) HT_.out ?_
              refine pV_ 34 66 (bm 69 34359738367) HT_.out ?_
              refine take_ (i:=35) (N:=some 67) (v:=?_) (a':=?_) (bm 69 68719476735) rfl rfl (take_ofW HT_.out HW_.out (by kernel_rfl)) (fun _ _ _ h => h) (Or.inl ⟨by rfl,?_⟩) hHeld ?_ ?_
              rotate_left
              ·rintro w' ⟨s0,s1,s2,s3,s4,s5,s6,s7,s8,s9,s10,s11,s12,s13,s14,s15⟩
               go_simp
               with_reducible rfl
              rotate_left
              ·simp only [Act.put,setIfInBounds_toArray,set_cons_zero,set_cons_succ,i64_w,i32_w]
               rfl
              refine pV_ 36 68 (bm 69 137438953471) HT_.out ?_
              refine pV_ 37 69 (bm 69 274877906943) HT_.out ?_
              refine pU_ 38 70 (bm 69 549755813887) HT_.out ?_
              refine pU_ 39 71 (bm 69 1099511627775) HT_.out ?_
              refine pU_ 40 72 (bm 69 2199023255551) HT_.out ?_
              refine pU_ 41 73 (bm 69 4398046511103) HT_.out ?_
              refine pU_ 42 74 (bm 69 8796093022207) HT_.out ?_
              refine pU_ 43 75 (bm 69 17592186044415) HT_.out ?_
              refine pU_ 44 76 (bm 69 35184372088831) HT_.out ?_
              refine pU_ 45 77 (bm 69 70368744177663) HT_.out ?_
              refine pU_ 46 78 (bm 69 140737488355327) HT_.out ?_
              refine pV_ 47 79 (bm 69 281474976710655) HT_.out ?_
              refine pV_ 48 80 (bm 69 562949953421311) HT_.out ?_
              refine pV_ 49 81 (bm 69 1125899906842623) HT_.out ?_
              refine pV_ 50 82 (bm 69 2251799813685247) HT_.out ?_
              refine pV_ 51 83 (bm 69 4503599627370495) HT_.out ?_
              refine pV_ 52 84 (bm 69 9007199254740991) HT_.out ?_
              refine take_ (i:=53) (N:=some 85) (v:=?_) (a':=?_) (bm 69 18014398509481983) rfl rfl (take_ofW HT_.out HW_.out (by kernel_rfl)) (fun _ _ _ h => h) (Or.inl ⟨by rfl,?_⟩) hHeld ?_ ?_
              rotate_left
              ·rintro w' ⟨s0,s1,s2,s3,s4,s5,s6,s7,s8,s9,s10,s11,s12,s13,s14,s15⟩
               go_simp
               with_reducible rfl
              rotate_left
              ·simp only [Act.put,setIfInBounds_toArray,set_cons_zero,set_cons_succ,i64_w,i32_w]
               rfl
              refine one_ (i:=54) (N:=some 86) (bm 69 36028797018963967) rfl rfl (one_of HT_.out (by kernel_rfl)) (by decide) (fun K hK => ?_)
              refine goes_ Tryd.func49 (by kernel_rfl) rfl #[.agg #[.int .i64 a0_10,.int .i64 a0_11,.int .i64 a0_12,.int .i64 a0_13,.int .i64 a0_14,.int .i64 a0_15]] (by rfl) rfl rfl mA ?_
              with_reducible refine (spec_AggOK.calls a0_10 a0_11 a0_12 a0_13 a0_14 a0_15 true _ A30.out).mono ?_
              rintro e w36 ⟨rfl,hb⟩
              refine ⟨_,rfl,?_⟩
              have n0_ := Aside0.mk (blk_below (g:=gb181) (o:=.cells #[.int .i64 a0_0,.int .i64 a0_1,.int .i64 a0_2,.int .i64 a0_3,.int .i64 a0_4,.int .i64 a0_5,.int .i64 a0_6,.int .i64 a0_7,.string a0_8,.slice A0_9 l0_9.length c0_9,.int .i64 a0_10,.int .i64 a0_11,.int .i64 a0_12,.int .i64 a0_13,.int .i64 a0_14,.int .i64 a0_15] 51 (0,0)) (kA BK181.out) hb)
              have n1_ := Aside0.mk (below_step bA hb)
              clear BK181
              clear HB
              have BK181 := n0_
              have HB := n1_
              clear n0_ n1_
              (try clear hb)
              (try clear hb2)
              (try clear hk)
              (try clear hi)
              refine hK.out _ _ ⟨(blk_cell BK181.out 0).trans rfl,(blk_cell BK181.out 1).trans rfl,(blk_cell BK181.out 2).trans rfl,(blk_cell BK181.out 3).trans rfl,(blk_cell BK181.out 4).trans rfl,(blk_cell BK181.out 5).trans rfl,(blk_cell BK181.out 6).trans rfl,(blk_cell BK181.out 7).trans rfl,(blk_cell BK181.out 8).trans rfl,(blk_cell BK181.out 9).trans rfl,(blk_cell BK181.out 10).trans rfl,(blk_cell BK181.out 11).trans rfl,(blk_cell BK181.out 12).trans rfl,(blk_cell BK181.out 13).trans rfl,(blk_cell BK181.out 14).trans rfl,(blk_cell BK181.out 15).trans rfl⟩ (fun hHeld => ?_)
              clear hK K
              refine norm_ (a':=?_) ?_ ?_
              rotate_left
              ·show Act.put _ (some 86) _ = _
               simp only [Act.put,setIfInBounds_toArray,set_cons_zero,set_cons_succ,i64_w,i32_w]
               rfl
              refine pV_ 55 87 (bm 69 72057594037927935) HT_.out ?_
              refine pV_ 56 88 (bm 69 144115188075855871) HT_.out ?_
              refine pV_ 57 89 (bm 69 288230376151711743) HT_.out ?_
              refine pV_ 58 90 (bm 69 576460752303423487) HT_.out ?_
              refine take_ (i:=59) (N:=some 91) (v:=?_) (a':=?_) (bm 69 1152921504606846975) rfl rfl (take_ofW HT_.out HW_.out (by kernel_rfl)) (fun _ _ _ h => h) (Or.inl ⟨by rfl,?_⟩) hHeld ?_ ?_
              rotate_left
              ·rintro w' ⟨s0,s1,s2,s3,s4,s5,s6,s7,s8,s9,s10,s11,s12,s13,s14,s15⟩
               go_simp
               with_reducible rfl
              rotate_left
              ·simp only [Act.put,setIfInBounds_toArray,set_cons_zero,set_cons_succ,i64_w,i32_w]
               rfl
              refine pV_ 60 92 (bm 69 2305843009213693951) HT_.out ?_
              refine pV_ 61 93 (bm 69 4611686018427387903) HT_.out ?_
              refine pV_ 62 94 (bm 69 9223372036854775807) HT_.out ?_
              refine pV_ 63 95 (bm 69 18446744073709551615) HT_.out ?_
              refine take_ (i:=64) (N:=some 96) (v:=?_) (a':=?_) (bm 69 36893488147419103231) rfl rfl (take_ofW HT_.out HW_.out (by kernel_rfl)) (fun _ _ _ h => h) (Or.inl ⟨by rfl,?_⟩) hHeld ?_ ?_
              rotate_left
              ·rintro w' ⟨s0,s1,s2,s3,s4,s5,s6,s7,s8,s9,s10,s11,s12,s13,s14,s15⟩
               go_simp
               with_reducible rfl
              rotate_left
              ·simp only [Act.put,setIfInBounds_toArray,set_cons_zero,set_cons_succ,i64_w,i32_w]
               rfl
              refine pV_ 65 97 (bm 69 73786976294838206463) HT_.out ?_
              refine pV_ 66 98 (bm 69 147573952589676412927) HT_.out ?_
              refine pV_ 67 99 (bm 69 295147905179352825855) HT_.out ?_
              refine pV_ 68 2 (bm 69 590295810358705651711) HT_.out ?_
              refine done_ (done_of HT_.out (by kernel_rfl)) ?_
              try go_wp2
              go_ret
              exact ⟨by first | rfl | (simp only [i64_w,i32_w] <;> rfl) | (simp [errW_none,errW_some] <;> rfl) | (simp [*,errW_none,errW_some] <;> rfl),bA⟩
             ·rw [if_neg c32] at H
              have c32b0 : decide (a0_10 ≤ 1000) = false := decide_eq_false c32
              clear c32
              obtain rfl := Option.some.inj H
              have hcz37_0 : wr.cell? ⟨gb181,0,none⟩ = some (.int .i64 a0_0) := (blk_cell BK181.out 0).trans rfl
              have hcz37_1 : wr.cell? ⟨gb181,1,none⟩ = some (.int .i64 a0_1) := (blk_cell BK181.out 1).trans rfl
              have hcz37_2 : wr.cell? ⟨gb181,2,none⟩ = some (.int .i64 a0_2) := (blk_cell BK181.out 2).trans rfl
              have hcz37_3 : wr.cell? ⟨gb181,3,none⟩ = some (.int .i64 a0_3) := (blk_cell BK181.out 3).trans rfl
              have hcz37_4 : wr.cell? ⟨gb181,4,none⟩ = some (.int .i64 a0_4) := (blk_cell BK181.out 4).trans rfl
              have hcz37_5 : wr.cell? ⟨gb181,5,none⟩ = some (.int .i64 a0_5) := (blk_cell BK181.out 5).trans rfl
              have hcz37_6 : wr.cell? ⟨gb181,6,none⟩ = some (.int .i64 a0_6) := (blk_cell BK181.out 6).trans rfl
              have hcz37_7 : wr.cell? ⟨gb181,7,none⟩ = some (.int .i64 a0_7) := (blk_cell BK181.out 7).trans rfl
              have hcz37_8 : wr.cell? ⟨gb181,8,none⟩ = some (.string a0_8) := (blk_cell BK181.out 8).trans rfl
              have hcz37_9 : wr.cell? ⟨gb181,9,none⟩ = some (.slice A0_9 l0_9.length c0_9) := (blk_cell BK181.out 9).trans rfl
              have hcz37_10 : wr.cell? ⟨gb181,10,none⟩ = some (.int .i64 a0_10) := (blk_cell BK181.out 10).trans rfl
              have hcz37_11 : wr.cell? ⟨gb181,11,none⟩ = some (.int .i64 a0_11) := (blk_cell BK181.out 11).trans rfl
              have hcz37_12 : wr.cell? ⟨gb181,12,none⟩ = some (.int .i64 a0_12) := (blk_cell BK181.out 12).trans rfl
              have hcz37_13 : wr.cell? ⟨gb181,13,none⟩ = some (.int .i64 a0_13) := (blk_cell BK181.out 13).trans rfl
              have hcz37_14 : wr.cell? ⟨gb181,14,none⟩ = some (.int .i64 a0_14) := (blk_cell BK181.out 14).trans rfl
              have hcz37_15 : wr.cell? ⟨gb181,15,none⟩ = some (.int .i64 a0_15) := (blk_cell BK181.out 15).trans rfl
              have hfz37_0 := blk_frozen BK181.out 0
              have hfz37_1 := blk_frozen BK181.out 1
              have hfz37_2 := blk_frozen BK181.out 2
              have hfz37_3 := blk_frozen BK181.out 3
              have hfz37_4 := blk_frozen BK181.out 4
              have hfz37_5 := blk_frozen BK181.out 5
              have hfz37_6 := blk_frozen BK181.out 6
              have hfz37_7 := blk_frozen BK181.out 7
              have hfz37_8 := blk_frozen BK181.out 8
              have hfz37_9 := blk_frozen BK181.out 9
              have hfz37_10 := blk_frozen BK181.out 10
              have hfz37_11 := blk_frozen BK181.out 11
              have hfz37_12 := blk_frozen BK181.out 12
              have hfz37_13 := blk_frozen BK181.out 13
              have hfz37_14 := blk_frozen BK181.out 14
              have hfz37_15 := blk_frozen BK181.out 15
              try go_wp2_with (first | ((with_reducible refine gate_callee (f:=46) rfl ?_); refine goesL_ (some 31) rfl rfl Tryd.func46 (by kernel_rfl) rfl #[.int .i64 a0_1,.int .i64 4,.int .i64 6] rfl mA ?_; (with_reducible refine (spec_l01In.calls a0_1 4 6 true _ A17.out).mono ?_); rintro e w' ⟨rfl,⟨nd,rfl⟩⟩; refine ⟨_,rfl,?_⟩))
              (try (rw [drewN_self wr]; generalize hq_ : World.drewN wr _ = wr; have n0_ : Aside0 (wr.heap[gb181]? = some (.cells #[.int .i64 a0_0,.int .i64 a0_1,.int .i64 a0_2,.int .i64 a0_3,.int .i64 a0_4,.int .i64 a0_5,.int .i64 a0_6,.int .i64 a0_7,.string a0_8,.slice A0_9 l0_9.length c0_9,.int .i64 a0_10,.int .i64 a0_11,.int .i64 a0_12,.int .i64 a0_13,.int .i64 a0_14,.int .i64 a0_15] 51 (0,0))) := ⟨by rw [← hq_]; exact (kA BK181.out)⟩; have n1_ : Aside0 (Below w.heap.size w wr) := ⟨by rw [← hq_]; exact bA⟩; clear BK181 HB hq_; have BK181 := n0_; have HB := n1_; clear n0_ n1_))
              have n0_ := Aside0.mk (blk_drew BK181.out)
              have n1_ := Aside0.mk (below_drew1 HB.out)
              clear BK181
              clear HB
              have BK181 := n0_
              have HB := n1_
              clear n0_ n1_
              refine start_ (n:=69) (S:=fun w' => w'.cell? ⟨gb181,0,none⟩ = some (.int .i64 a0_0) ∧ w'.cell? ⟨gb181,1,none⟩ = some (.int .i64 a0_1) ∧ w'.cell? ⟨gb181,2,none⟩ = some (.int .i64 a0_2) ∧ w'.cell? ⟨gb181,3,none⟩ = some (.int .i64 a0_3) ∧ w'.cell? ⟨gb181,4,none⟩ = some (.int .i64 a0_4) ∧ w'.cell? ⟨gb181,5,none⟩ = some (.int .i64 a0_5) ∧ w'.cell? ⟨gb181,6,none⟩ = some (.int .i64 a0_6) ∧ w'.cell? ⟨gb181,7,none⟩ = some (.int .i64 a0_7) ∧ w'.cell? ⟨gb181,8,none⟩ = some (.string a0_8) ∧ w'.cell? ⟨gb181,9,none⟩ = some (.slice A0_9 l0_9.length c0_9) ∧ w'.cell? ⟨gb181,10,none⟩ = some (.int .i64 a0_10) ∧ w'.cell? ⟨gb181,11,none⟩ = some (.int .i64 a0_11) ∧ w'.cell? ⟨gb181,12,none⟩ = some (.int .i64 a0_12) ∧ w'.cell? ⟨gb181,13,none⟩ = some (.int .i64 a0_13) ∧ w'.cell? ⟨gb181,14,none⟩ = some (.int .i64 a0_14) ∧ w'.cell? ⟨gb181,15,none⟩ = some (.int .i64 a0_15)) (ds := []) (bm 69 0) (by kernel_rfl) rfl rfl ⟨(blk_cell BK181.out 0).trans rfl,(blk_cell BK181.out 1).trans rfl,(blk_cell BK181.out 2).trans rfl,(blk_cell BK181.out 3).trans rfl,(blk_cell BK181.out 4).trans rfl,(blk_cell BK181.out 5).trans rfl,(blk_cell BK181.out 6).trans rfl,(blk_cell BK181.out 7).trans rfl,(blk_cell BK181.out 8).trans rfl,(blk_cell BK181.out 9).trans rfl,(blk_cell BK181.out 10).trans rfl,(blk_cell BK181.out 11).trans rfl,(blk_cell BK181.out 12).trans rfl,(blk_cell BK181.out 13).trans rfl,(blk_cell BK181.out 14).trans rfl,(blk_cell BK181.out 15).trans rfl⟩ (fun hHeld => ?_); refine with_tabW spec_WorkerOK.tab8 spec_WorkerOK.bits8 (fun HT_ HW_ => ?_)
              generalize wr.drew = w38 at BK181 HB hHeld ⊢
              refine pV_ 0 32 (bm 69 1) HT_.out ?_
              refine take_ (i:=1) (N:=some 33) (v:=?_) (a':=?_) (bm 69 3) rfl rfl (take_ofW HT_.out HW_.out (by kernel_rfl)) (fun _ _ _ h => h) (Or.inl ⟨by rfl,?_⟩) hHeld ?_ ?_
              rotate_left
              ·rintro w' ⟨s0,s1,s2,s3,s4,s5,s6,s7,s8,s9,s10,s11,s12,s13,s14,s15⟩
               go_simp
               with_reducible rfl
              rotate_left
              ·simp only [Act.put,setIfInBounds_toArray,set_cons_zero,set_cons_succ,i64_w,i32_w]
               rfl
              refine one_ (i:=2) (N:=some 34) (bm 69 7) rfl rfl (one_of HT_.out (by kernel_rfl)) (by decide) (fun K hK => ?_)
              refine goes_ Tryd.func46 (by kernel_rfl) rfl #[.int .i64 a0_0,.int .i64 0,.int .i64 9] (by rfl) rfl rfl mA ?_
              with_reducible refine (spec_l01In.calls a0_0 0 9 true _ A18.out).mono ?_
              rintro e w' ⟨rfl,⟨nd,rfl⟩⟩
              refine ⟨_,rfl,?_⟩
              refine hK.out _ _ ⟨(blk_cell BK181.out 0).trans rfl,(blk_cell BK181.out 1).trans rfl,(blk_cell BK181.out 2).trans rfl,(blk_cell BK181.out 3).trans rfl,(blk_cell BK181.out 4).trans rfl,(blk_cell BK181.out 5).trans rfl,(blk_cell BK181.out 6).trans rfl,(blk_cell BK181.out 7).trans rfl,(blk_cell BK181.out 8).trans rfl,(blk_cell BK181.out 9).trans rfl,(blk_cell BK181.out 10).trans rfl,(blk_cell BK181.out 11).trans rfl,(blk_cell BK181.out 12).trans rfl,(blk_cell BK181.out 13).trans rfl,(blk_cell BK181.out 14).trans rfl,(blk_cell BK181.out 15).trans rfl⟩ (fun hHeld => ?_)
              clear hK K
              refine norm_ (a':=?_) ?_ ?_
              rotate_left
              ·show Act.put _ (some 34) _ = _
               simp only [Act.put,setIfInBounds_toArray,set_cons_zero,set_cons_succ,i64_w,i32_w]
               rfl
              refine pV_ 3 35 (bm 69 15) HT_.out ?_
              refine pV_ 4 36 (bm 69 31) HT_.out ?_
              refine take_ (i:=5) (N:=some 37) (v:=?_) (a':=?_) (bm 69 63) rfl rfl (take_ofW HT_.out HW_.out (by kernel_rfl)) (fun _ _ _ h => h) (Or.inl ⟨by rfl,?_⟩) hHeld ?_ ?_
              rotate_left
              ·rintro w' ⟨s0,s1,s2,s3,s4,s5,s6,s7,s8,s9,s10,s11,s12,s13,s14,s15⟩
               go_simp
               with_reducible rfl
              rotate_left
              ·simp only [Act.put,setIfInBounds_toArray,set_cons_zero,set_cons_succ,i64_w,i32_w]
               rfl
              refine one_ (i:=6) (N:=some 38) (bm 69 127) rfl rfl (one_of HT_.out (by kernel_rfl)) (by decide) (fun K hK => ?_)
              refine goes_ Tryd.func46 (by kernel_rfl) rfl #[.int .i64 a0_1,.int .i64 0,.int .i64 7] (by rfl) rfl rfl mA ?_
              with_reducible refine (spec_l01In.calls a0_1 0 7 true _ A20.out).mono ?_
              rintro e w' ⟨rfl,⟨nd,rfl⟩⟩
              refine ⟨_,rfl,?_⟩
              refine hK.out _ _ ⟨(blk_cell BK181.out 0).trans rfl,(blk_cell BK181.out 1).trans rfl,(blk_cell BK181.out 2).trans rfl,(blk_cell BK181.out 3).trans rfl,(blk_cell BK181.out 4).trans rfl,(blk_cell BK181.out 5).trans rfl,(blk_cell BK181.out 6).trans rfl,(blk_cell BK181.out 7).trans rfl,(blk_cell BK181.out 8).trans rfl,(blk_cell BK181.out 9).trans rfl,(blk_cell BK181.out 10).trans rfl,(blk_cell BK181.out 11).trans rfl,(blk_cell BK181.out 12).trans rfl,(blk_cell BK181.out 13).trans rfl,(blk_cell BK181.out 14).trans rfl,(blk_cell BK181.out 15).trans rfl⟩ (fun hHeld => ?_)
              clear hK K
              refine norm_ (a':=?_) ?_ ?_
              rotate_left
              ·show Act.put _ (some 38) _ = _
               simp only [Act.put,setIfInBounds_toArray,set_cons_zero,set_cons_succ,i64_w,i32_w]
               rfl
              refine pV_ 7 39 (bm 69 255) HT_.out ?_
              refine pV_ 8 40 (bm 69 511) HT_.out ?_
              refine pV_ 9 41 (bm 69 1023) HT_.out ?_
              refine pV_ 11 43 (bm 69 3071) HT_.out ?_
              refine take_ (i:=10) (N:=some 42) (v:=?_) (a':=?_) (bm 69 4095) rfl rfl (take_ofW HT_.out HW_.out (by kernel_rfl)) (fun _ _ _ h => h) (Or.inl ⟨by rfl,?_⟩) hHeld ?_ ?_
              rotate_left
              ·rintro w' ⟨s0,s1,s2,s3,s4,s5,s6,s7,s8,s9,s10,s11,s12,s13,s14,s15⟩
               go_simp
               with_reducible rfl
              rotate_left
              ·simp only [Act.put,setIfInBounds_toArray,set_cons_zero,set_cons_succ,i64_w,i32_w]
               rfl
              refine take_ (i:=12) (N:=some 44) (v:=?_) (a':=?_) (bm 69 8191) rfl rfl (take_ofW HT_.out HW_.out (by kernel_rfl)) (fun _ _ _ h => h) (Or.inl ⟨by rfl,?_⟩) hHeld ?_ ?_
              rotate_left
              ·rintro w' ⟨s0,s1,s2,s3,s4,s5,s6,s7,s8,s9,s10,s11,s12,s13,s14,s15⟩
               go_simp
               with_reducible rfl
              rotate_left
              ·simp only [Act.put,setIfInBounds_toArray,set_cons_zero,set_cons_succ,i64_w,i32_w]
               rfl
              refine pV_ 13 45 (bm 69 16383) HT_.out ?_
              refine one_ (i:=14) (N:=some 46) (bm 69 32767) rfl rfl (one_of HT_.out (by kernel_rfl)) (by decide) (fun K hK => ?_)
              refine goes_ Tryd.func47 (by kernel_rfl) rfl #[.bool (decide (a0_1 > 1))] (by rfl) rfl rfl mA ?_
              with_reducible refine (spec_l01Bit.calls (decide (a0_1 > 1)) t188 _ A22.out).mono ?_
              rintro e w' ⟨rfl,⟨nd,rfl⟩⟩
              refine ⟨_,rfl,?_⟩
              refine hK.out _ _ ⟨(blk_cell BK181.out 0).trans rfl,(blk_cell BK181.out 1).trans rfl,(blk_cell BK181.out 2).trans rfl,(blk_cell BK181.out 3).trans rfl,(blk_cell BK181.out 4).trans rfl,(blk_cell BK181.out 5).trans rfl,(blk_cell BK181.out 6).trans rfl,(blk_cell BK181.out 7).trans rfl,(blk_cell BK181.out 8).trans rfl,(blk_cell BK181.out 9).trans rfl,(blk_cell BK181.out 10).trans rfl,(blk_cell BK181.out 11).trans rfl,(blk_cell BK181.out 12).trans rfl,(blk_cell BK181.out 13).trans rfl,(blk_cell BK181.out 14).trans rfl,(blk_cell BK181.out 15).trans rfl⟩ (fun hHeld => ?_)
              clear hK K
              refine norm_ (a':=?_) ?_ ?_
              rotate_left
              ·show Act.put _ (some 46) _ = _
               simp only [Act.put,setIfInBounds_toArray,set_cons_zero,set_cons_succ,i64_w,i32_w]
               rfl
              refine one_ (i:=15) (N:=some 47) (bm 69 65535) rfl rfl (one_of HT_.out (by kernel_rfl)) (by decide) (fun K hK => ?_)
              refine goes_ Tryd.func46 (by kernel_rfl) rfl #[.int .i64 a0_2,.int .i64 t188,.int .i64 999999] (by rfl) rfl rfl mA ?_
              with_reducible refine (spec_l01In.calls a0_2 t188 999999 true _ A23.out).mono ?_
              rintro e w' ⟨rfl,⟨nd,rfl⟩⟩
              refine ⟨_,rfl,?_⟩
              refine hK.out _ _ ⟨(blk_cell BK181.out 0).trans rfl,(blk_cell BK181.out 1).trans rfl,(blk_cell BK181.out 2).trans rfl,(blk_cell BK181.out 3).trans rfl,(blk_cell BK181.out 4).trans rfl,(blk_cell BK181.out 5).trans rfl,(blk_cell BK181.out 6).trans rfl,(blk_cell BK181.out 7).trans rfl,(blk_cell BK181.out 8).trans rfl,(blk_cell BK181.out 9).trans rfl,(blk_cell BK181.out 10).trans rfl,(blk_cell BK181.out 11).trans rfl,(blk_cell BK181.out 12).trans rfl,(blk_cell BK181.out 13).trans rfl,(blk_cell BK181.out 14).trans rfl,(blk_cell BK181.out 15).trans rfl⟩ (fun hHeld => ?_)
              clear hK K
              refine norm_ (a':=?_) ?_ ?_
              rotate_left
              ·show Act.put _ (some 47) _ = _
               simp only [Act.put,setIfInBounds_toArray,set_cons_zero,set_cons_succ,i64_w,i32_w]
               rfl
              refine pV_ 16 48 (bm 69 131071) HT_.out ?_
              refine pV_ 17 49 (bm 69 262143) HT_.out ?_
              refine pV_ 18 50 (bm 69 524287) HT_.out ?_
              refine pV_ 19 51 (bm 69 1048575) HT_.out ?_
              refine pV_ 20 52 (bm 69 2097151) HT_.out ?_
              refine pV_ 21 53 (bm 69 4194303) HT_.out ?_
              refine take_ (i:=22) (N:=some 54) (v:=?_) (a':=?_) (bm 69 8388607) rfl rfl (take_ofW HT_.out HW_.out (by kernel_rfl)) (fun _ _ _ h => h) (Or.inl ⟨by rfl,?_⟩) hHeld ?_ ?_
              rotate_left
              ·rintro w' ⟨s0,s1,s2,s3,s4,s5,s6,s7,s8,s9,s10,s11,s12,s13,s14,s15⟩
               go_simp
               with_reducible rfl
              rotate_left
              ·simp only [Act.put,setIfInBounds_toArray,set_cons_zero,set_cons_succ,i64_w,i32_w]
               rfl
              refine one_ (i:=23) (N:=some 55) (bm 69 16777215) rfl rfl (one_of HT_.out (by kernel_rfl)) (by decide) (fun K hK => ?_)
              refine goes_ Tryd.func48 (by kernel_rfl) rfl #[.agg #[.int .i64 a0_3,.int .i64 a0_4,.int .i64 a0_5,.int .i64 a0_6,.int .i64 a0_7,.string a0_8]] (by rfl) rfl rfl mA ?_
              with_reducible refine (spec_RecordOK.calls k1 a0_3 a0_4 a0_5 a0_6 a0_7 a0_8 true _ A26.out).mono ?_
              rintro e w39 ⟨rfl,hb⟩
              refine ⟨_,rfl,?_⟩
              have n0_ := Aside0.mk (blk_below (g:=gb181) (o:=.cells #[.int .i64 a0_0,.int .i64 a0_1,.int .i64 a0_2,.int .i64 a0_3,.int .i64 a0_4,.int .i64 a0_5,.int .i64 a0_6,.int .i64 a0_7,.string a0_8,.slice A0_9 l0_9.length c0_9,.int .i64 a0_10,.int .i64 a0_11,.int .i64 a0_12,.int .i64 a0_13,.int .i64 a0_14,.int .i64 a0_15] 51 (0,0)) (kA BK181.out) hb)
              have n1_ := Aside0.mk (below_step bA hb)
              clear BK181
              clear HB
              have BK181 := n0_
              have HB := n1_
              clear n0_ n1_
              (try clear hb)
              (try clear hb2)
              (try clear hk)
              (try clear hi)
              refine hK.out _ _ ⟨(blk_cell BK181.out 0).trans rfl,(blk_cell BK181.out 1).trans rfl,(blk_cell BK181.out 2).trans rfl,(blk_cell BK181.out 3).trans rfl,(blk_cell BK181.out 4).trans rfl,(blk_cell BK181.out 5).trans rfl,(blk_cell BK181.out 6).trans rfl,(blk_cell BK181.out 7).trans rfl,(blk_cell BK181.out 8).trans rfl,(blk_cell BK181.out 9).trans rfl,(blk_cell BK181.out 10).trans rfl,(blk_cell BK181.out 11).trans rfl,(blk_cell BK181.out 12).trans rfl,(blk_cell BK181.out 13).trans rfl,(blk_cell BK181.out 14).trans rfl,(blk_cell BK181.out 15).trans rfl⟩ (fun hHeld => ?_)
              clear hK K
              refine norm_ (a':=?_) ?_ ?_
              rotate_left
              ·show Act.put _ (some 55) _ = _
               simp only [Act.put,setIfInBounds_toArray,set_cons_zero,set_cons_succ,i64_w,i32_w]
               rfl
              refine pV_ 24 56 (bm 69 33554431) HT_.out ?_
              refine pV_ 25 57 (bm 69 67108863) HT_.out ?_
              refine pV_ 26 58 (bm 69 134217727) HT_.out ?_
              refine pV_ 28 60 (bm 69 402653183) HT_.out ?_
              refine take_ (i:=27) (N:=some 59) (v:=?_) (a':=?_) (bm 69 536870911) rfl rfl (take_ofW HT_.out HW_.out (by kernel_rfl)) (fun _ _ _ h => h) (Or.inl ⟨by rfl,?_⟩) hHeld ?_ ?_
              rotate_left
              ·rintro w' ⟨s0,s1,s2,s3,s4,s5,s6,s7,s8,s9,s10,s11,s12,s13,s14,s15⟩
               go_simp
               with_reducible rfl
              rotate_left
              ·simp only [Act.put,setIfInBounds_toArray,set_cons_zero,set_cons_succ,i64_w,i32_w]
               rfl
              refine take_ (i:=29) (N:=some 61) (v:=?_) (a':=?_) (bm 69 1073741823) rfl rfl (take_ofW HT_.out HW_.out (by kernel_rfl)) (fun _ _ _ h => h) (Or.inl ⟨by rfl,?_⟩) hHeld ?_ ?_
              rotate_left
              ·rintro w' ⟨s0,s1,s2,s3,s4,s5,s6,s7,s8,s9,s10,s11,s12,s13,s14,s15⟩
               go_simp
               with_reducible rfl
              rotate_left
              ·simp only [Act.put,setIfInBounds_toArray,set_cons_zero,set_cons_succ,i64_w,i32_w]
               rfl
              refine pV_ 30 62 (bm 69 2147483647) HT_.out ?_
              refine pV_ 31 63 (bm 69 4294967295) HT_.out ?_
              refine pV_ 32 64 (bm 69 8589934591) HT_.out ?_
              refine pV_ 33 65 (bm 69 17179869183) HT_.out ?_
              refine pV_ 34 66 (bm 69 34359738367) HT_.out ?_
              refine take_ (i:=35) (N:=some 67) (v:=?_) (a':=?_) (bm 69 68719476735) rfl rfl (take_ofW HT_.out HW_.out (by kernel_rfl)) (fun _ _ _ h => h) (Or.inl ⟨by rfl,?_⟩) hHeld ?_ ?_
              rotate_left
              ·rintro w' ⟨s0,s1,s2,s3,s4,s5,s6,s7,s8,s9,s10,s11,s12,s13,s14,s15⟩
               go_simp
               with_reducible rfl
              rotate_left
              ·simp only [Act.put,setIfInBounds_toArray,set_cons_zero,set_cons_succ,i64_w,i32_w]
               rfl
              refine pV_ 36 68 (bm 69 137438953471) HT_.out ?_
              refine pV_ 37 69 (bm 69 274877906943) HT_.out ?_
              refine pU_ 38 70 (bm 69 549755813887) HT_.out ?_
              refine pU_ 39 71 (bm 69 1099511627775) HT_.out ?_
              refine pU_ 40 72 (bm 69 2199023255551) HT_.out ?_
              refine pU_ 41 73 (bm 69 4398046511103) HT_.out ?_
              refine pU_ 42 74 (bm 69 8796093022207) HT_.out ?_
              refine pU_ 43 75 (bm 69 17592186044415) HT_.out ?_
              refine pU_ 44 76 (bm 69 35184372088831) HT_.out ?_
              refine pU_ 45 77 (bm 69 70368744177663) HT_.out ?_
              refine pU_ 46 78 (bm 69 140737488355327) HT_.out ?_
              refine pV_ 47 79 (bm 69 281474976710655) HT_.out ?_
              refine pV_ 48 80 (bm 69 562949953421311) HT_.out ?_
              refine pV_ 49 81 (bm 69 1125899906842623) HT_.out ?_
              refine pV_ 50 82 (bm 69 2251799813685247) HT_.out ?_
              refine pV_ 51 83 (bm 69 4503599627370495) HT_.out ?_
              refine pV_ 52 84 (bm 69 9007199254740991) HT_.out ?_
              refine take_ (i:=53) (N:=some 85) (v:=?_) (a':=?_) (bm 69 18014398509481983) rfl rfl (take_ofW HT_.out HW_.out (by kernel_rfl)) (fun _ _ _ h => h) (Or.inl ⟨by rfl,?_⟩) hHeld ?_ ?_
              rotate_left
              ·rintro w' ⟨s0,s1,s2,s3,s4,s5,s6,s7,s8,s9,s10,s11,s12,s13,s14,s15⟩
               go_simp
               with_reducible rfl
              rotate_left
              ·simp only [Act.put,setIfInBounds_toArray,set_cons_zero,set_cons_succ,i64_w,i32_w]
               rfl
              refine one_ (i:=54) (N:=some 86) (bm 69 36028797018963967) rfl rfl (one_of HT_.out (by kernel_rfl)) (by decide) (fun K hK => ?_)
              refine goes_ Tryd.func49 (by kernel_rfl) rfl #[.agg #[.int .i64 a0_10,.int .i64 a0_11,.int .i64 a0_12,.int .i64 a0_13,.int .i64 a0_14,.int .i64 a0_15]] (by rfl) rfl rfl mA ?_
              with_reducible refine (spec_AggOK.calls a0_10 a0_11 a0_12 a0_13 a0_14 a0_15 true _ A30.out).mono ?_
              rintro e w40 ⟨rfl,hb⟩
              refine ⟨_,rfl,?_⟩
              have n0_ := Aside0.mk (blk_below (g:=gb181) (o:=.cells #[.int .i64 a0_0,.int .i64 a0_1,.int .i64 a0_2,.int .i64 a0_3,.int .i64 a0_4,.int .i64 a0_5,.int .i64 a0_6,.int .i64 a0_7,.string a0_8,.slice A0_9 l0_9.length c0_9,.int .i64 a0_10,.int .i64 a0_11,.int .i64 a0_12,.int .i64 a0_13,.int .i64 a0_14,.int .i64 a0_15] 51 (0,0)) (kA BK181.out) hb)
              have n1_ := Aside0.mk (below_step bA hb)
              clear BK181
              clear HB
              have BK181 := n0_
              have HB := n1_
              clear n0_ n1_
              (try clear hb)
              (try clear hb2)
              (try clear hk)
              (try clear hi)
              refine hK.out _ _ ⟨(blk_cell BK181.out 0).trans rfl,(blk_cell BK181.out 1).trans rfl,(blk_cell BK181.out 2).trans rfl,(blk_cell BK181.out 3).trans rfl,(blk_cell BK181.out 4).trans rfl,(blk_cell BK181.out 5).trans rfl,(blk_cell BK181.out 6).trans rfl,(blk_cell BK181.out 7).trans rfl,(blk_cell BK181.out 8).trans rfl,(blk_cell BK181.out 9).trans rfl,(blk_cell BK181.out 10).trans rfl,(blk_cell BK181.out 11).trans rfl,(blk_cell BK181.out 12).trans rfl,(blk_cell BK181.out 13).trans rfl,(blk_cell BK181.out 14).trans rfl,(blk_cell BK181.out 15).trans rfl⟩ (fun hHeld => ?_)
              clear hK K
              refine norm_ (a':=?_) ?_ ?_
              rotate_left
              ·show Act.put _ (some 86) _ = _
               simp only [Act.put,setIfInBounds_toArray,set_cons_zero,set_cons_succ,i64_w,i32_w]
               rfl
              refine pV_ 55 87 (bm 69 72057594037927935) HT_.out ?_
              refine pV_ 56 88 (bm 69 144115188075855871) HT_.out ?_
              refine pV_ 57 89 (bm 69 288230376151711743) HT_.out ?_
              refine pV_ 58 90 (bm 69 576460752303423487) HT_.out ?_
              refine take_ (i:=59) (N:=some 91) (v:=?_) (a':=?_) (bm 69 1152921504606846975) rfl rfl (take_ofW HT_.out HW_.out (by kernel_rfl)) (fun _ _ _ h => h) (Or.inl ⟨by rfl,?_⟩) hHeld ?_ ?_
              rotate_left
              ·rintro w' ⟨s0,s1,s2,s3,s4,s5,s6,s7,s8,s9,s10,s11,s12,s13,s14,s15⟩
               go_simp
               with_reducible rfl
              rotate_left
              ·simp only [Act.put,setIfInBounds_toArray,set_cons_zero,set_cons_succ,i64_w,i32_w]
               rfl
              refine pV_ 60 92 (bm 69 2305843009213693951) HT_.out ?_
              refine pV_ 61 93 (bm 69 4611686018427387903) HT_.out ?_
              refine pV_ 62 94 (bm 69 9223372036854775807) HT_.out ?_
              refine pU_ 63 95 (bm 69 18446744073709551615) HT_.out ?_
              refine pU_ 64 96 (bm 69 36893488147419103231) HT_.out ?_
              refine pU_ 65 97 (bm 69 73786976294838206463) HT_.out ?_
              refine pU_ 66 98 (bm 69 147573952589676412927) HT_.out ?_
              refine pV_ 67 99 (bm 69 295147905179352825855) HT_.out ?_
              refine pV_ 68 2 (bm 69 590295810358705651711) HT_.out ?_
              refine done_ (done_of HT_.out (by kernel_rfl)) ?_
              try go_wp2
              go_ret
              exact ⟨by first | rfl | (simp only [i64_w,i32_w] <;> rfl) | (simp [errW_none,errW_some] <;> rfl) | (simp [*,errW_none,errW_some] <;> rfl),bA⟩
            ·replace c31 := Bool.eq_false_iff.mpr c31
             subst c31
             rw [if_neg (show ¬ (false = true) by decide)] at H
             obtain rfl := Option.some.inj H
             have hcz41_0 : wr.cell? ⟨gb181,0,none⟩ = some (.int .i64 a0_0) := (blk_cell BK181.out 0).trans rfl
             have hcz41_1 : wr.cell? ⟨gb181,1,none⟩ = some (.int .i64 a0_1) := (blk_cell BK181.out 1).trans rfl
             have hcz41_2 : wr.cell? ⟨gb181,2,none⟩ = some (.int .i64 a0_2) := (blk_cell BK181.out 2).trans rfl
             have hcz41_3 : wr.cell? ⟨gb181,3,none⟩ = some (.int .i64 a0_3) := (blk_cell BK181.out 3).trans rfl
             have hcz41_4 : wr.cell? ⟨gb181,4,none⟩ = some (.int .i64 a0_4) := (blk_cell BK181.out 4).trans rfl
             have hcz41_5 : wr.cell? ⟨gb181,5,none⟩ = some (.int .i64 a0_5) := (blk_cell BK181.out 5).trans rfl
             have hcz41_6 : wr.cell? ⟨gb181,6,none⟩ = some (.int .i64 a0_6) := (blk_cell BK181.out 6).trans rfl
             have hcz41_7 : wr.cell? ⟨gb181,7,none⟩ = some (.int .i64 a0_7) := (blk_cell BK181.out 7).trans rfl
             have hcz41_8 : wr.cell? ⟨gb181,8,none⟩ = some (.string a0_8) := (blk_cell BK181.out 8).trans rfl
             have hcz41_9 : wr.cell? ⟨gb181,9,none⟩ = some (.slice A0_9 l0_9.length c0_9) := (blk_cell BK181.out 9).trans rfl
             have hcz41_10 : wr.cell? ⟨gb181,10,none⟩ = some (.int .i64 a0_10) := (blk_cell BK181.out 10).trans rfl
             have hcz41_11 : wr.cell? ⟨gb181,11,none⟩ = some (.int .i64 a0_11) := (blk_cell BK181.out 11).trans rfl
             have hcz41_12 : wr.cell? ⟨gb181,12,none⟩ = some (.int .i64 a0_12) := (blk_cell BK181.out 12).trans rfl
             have hcz41_13 : wr.cell? ⟨gb181,13,none⟩ = some (.int .i64 a0_13) := (blk_cell BK181.out 13).trans rfl
             have hcz41_14 : wr.cell? ⟨gb181,14,none⟩ = some (.int .i64 a0_14) := (blk_cell BK181.out 14).trans rfl
             have hcz41_15 : wr.cell? ⟨gb181,15,none⟩ = some (.int .i64 a0_15) := (blk_cell BK181.out 15).trans rfl
             have hfz41_0 := blk_frozen BK181.out 0
             have hfz41_1 := blk_frozen BK181.out 1
             have hfz41_2 := blk_frozen BK181.out 2
             have hfz41_3 := blk_frozen BK181.out 3
             have hfz41_4 := blk_frozen BK181.out 4
             have hfz41_5 := blk_frozen BK181.out 5
             have hfz41_6 := blk_frozen BK181.out 6
             have hfz41_7 := blk_frozen BK181.out 7
             have hfz41_8 := blk_frozen BK181.out 8
             have hfz41_9 := blk_frozen BK181.out 9
             have hfz41_10 := blk_frozen BK181.out 10
             have hfz41_11 := blk_frozen BK181.out 11
             have hfz41_12 := blk_frozen BK181.out 12
             have hfz41_13 := blk_frozen BK181.out 13
             have hfz41_14 := blk_frozen BK181.out 14
             have hfz41_15 := blk_frozen BK181.out 15
             try go_wp2_with (first | ((with_reducible refine gate_callee (f:=46) rfl ?_); refine goesL_ (some 31) rfl rfl Tryd.func46 (by kernel_rfl) rfl #[.int .i64 a0_1,.int .i64 4,.int .i64 6] rfl mA ?_; (with_reducible refine (spec_l01In.calls a0_1 4 6 true _ A17.out).mono ?_); rintro e w' ⟨rfl,⟨nd,rfl⟩⟩; refine ⟨_,rfl,?_⟩))
             (try (rw [drewN_self wr]; generalize hq_ : World.drewN wr _ = wr; have n0_ : Aside0 (wr.heap[gb181]? = some (.cells #[.int .i64 a0_0,.int .i64 a0_1,.int .i64 a0_2,.int .i64 a0_3,.int .i64 a0_4,.int .i64 a0_5,.int .i64 a0_6,.int .i64 a0_7,.string a0_8,.slice A0_9 l0_9.length c0_9,.int .i64 a0_10,.int .i64 a0_11,.int .i64 a0_12,.int .i64 a0_13,.int .i64 a0_14,.int .i64 a0_15] 51 (0,0))) := ⟨by rw [← hq_]; exact (kA BK181.out)⟩; have n1_ : Aside0 (Below w.heap.size w wr) := ⟨by rw [← hq_]; exact bA⟩; clear BK181 HB hq_; have BK181 := n0_; have HB := n1_; clear n0_ n1_))
             have n0_ := Aside0.mk (blk_drew BK181.out)
             have n1_ := Aside0.mk (below_drew1 HB.out)
             clear BK181
             clear HB
             have BK181 := n0_
             have HB := n1_
             clear n0_ n1_
             refine start_ (n:=69) (S:=fun w' => w'.cell? ⟨gb181,0,none⟩ = some (.int .i64 a0_0) ∧ w'.cell? ⟨gb181,1,none⟩ = some (.int .i64 a0_1) ∧ w'.cell? ⟨gb181,2,none⟩ = some (.int .i64 a0_2) ∧ w'.cell? ⟨gb181,3,none⟩ = some (.int .i64 a0_3) ∧ w'.cell? ⟨gb181,4,none⟩ = some (.int .i64 a0_4) ∧ w'.cell? ⟨gb181,5,none⟩ = some (.int .i64 a0_5) ∧ w'.cell? ⟨gb181,6,none⟩ = some (.int .i64 a0_6) ∧ w'.cell? ⟨gb181,7,none⟩ = some (.int .i64 a0_7) ∧ w'.cell? ⟨gb181,8,none⟩ = some (.string a0_8) ∧ w'.cell? ⟨gb181,9,none⟩ = some (.slice A0_9 l0_9.length c0_9) ∧ w'.cell? ⟨gb181,10,none⟩ = some (.int .i64 a0_10) ∧ w'.cell? ⟨gb181,11,none⟩ = some (.int .i64 a0_11) ∧ w'.cell? ⟨gb181,12,none⟩ = some (.int .i64 a0_12) ∧ w'.cell? ⟨gb181,13,none⟩ = some (.int .i64 a0_13) ∧ w'.cell? ⟨gb181,14,none⟩ = some (.int .i64 a0_14) ∧ w'.cell? ⟨gb181,15,none⟩ = some (.int .i64 a0_15)) (ds := []) (bm 69 0) (by kernel_rfl) rfl rfl ⟨(blk_cell BK181.out 0).trans rfl,(blk_cell BK181.out 1).trans rfl,(blk_cell BK181.out 2).trans rfl,(blk_cell BK181.out 3).trans rfl,(blk_cell BK181.out 4).trans rfl,(blk_cell BK181.out 5).trans rfl,(blk_cell BK181.out 6).trans rfl,(blk_cell BK181.out 7).trans rfl,(blk_cell BK181.out 8).trans rfl,(blk_cell BK181.out 9).trans rfl,(blk_cell BK181.out 10).trans rfl,(blk_cell BK181.out 11).trans rfl,(blk_cell BK181.out 12).trans rfl,(blk_cell BK181.out 13).trans rfl,(blk_cell BK181.out 14).trans rfl,(blk_cell BK181.out 15).trans rfl⟩ (fun hHeld => ?_); refine with_tabW spec_WorkerOK.tab8 spec_WorkerOK.bits8 (fun HT_ HW_ => ?_)
             generalize wr.drew = w42 at BK181 HB hHeld ⊢
             refine pV_ 0 32 (bm 69 1) HT_.out ?_
             refine take_ (i:=1) (N:=some 33) (v:=?_) (a':=?_) (bm 69 3) rfl rfl (take_ofW HT_.out HW_.out (by kernel_rfl)) (fun _ _ _ h => h) (Or.inl ⟨by rfl,?_⟩) hHeld ?_ ?_
             rotate_left
             ·rintro w' ⟨s0,s1,s2,s3,s4,s5,s6,s7,s8,s9,s10,s11,s12,s13,s14,s15⟩
              go_simp
              with_reducible rfl
             rotate_left
             ·simp only [Act.put,setIfInBounds_toArray,set_cons_zero,set_cons_succ,i64_w,i32_w]
              rfl
             refine one_ (i:=2) (N:=some 34) (bm 69 7) rfl rfl (one_of HT_.out (by kernel_rfl)) (by decide) (fun K hK => ?_)
             refine goes_ Tryd.func46 (by kernel_rfl) rfl #[.int .i64 a0_0,.int .i64 0,.int .i64 9] (by rfl) rfl rfl mA ?_
             with_reducible refine (spec_l01In.calls a0_0 0 9 true _ A18.out).mono ?_
             rintro e w' ⟨rfl,⟨nd,rfl⟩⟩
             refine ⟨_,rfl,?_⟩
             refine hK.out _ _ ⟨(blk_cell BK181.out 0).trans rfl,(blk_cell BK181.out 1).trans rfl,(blk_cell BK181.out 2).trans rfl,(blk_cell BK181.out 3).trans rfl,(blk_cell BK181.out 4).trans rfl,(blk_cell BK181.out 5).trans rfl,(blk_cell BK181.out 6).trans rfl,(blk_cell BK181.out 7).trans rfl,(blk_cell BK181.out 8).trans rfl,(blk_cell BK181.out 9).trans rfl,(blk_cell BK181.out 10).trans rfl,(blk_cell BK181.out 11).trans rfl,(blk_cell BK181.out 12).trans rfl,(blk_cell BK181.out 13).trans rfl,(blk_cell BK181.out 14).trans rfl,(blk_cell BK181.out 15).trans rfl⟩ (fun hHeld => ?_)
             clear hK K
             refine norm_ (a':=?_) ?_ ?_
             rotate_left
             ·show Act.put _ (some 34) _ = _
              simp only [Act.put,setIfInBounds_toArray,set_cons_zero,set_cons_succ,i64_w,i32_w]
              rfl
             refine pV_ 3 35 (bm 69 15) HT_.out ?_
             refine pV_ 4 36 (bm 69 31) HT_.out ?_
             refine take_ (i:=5) (N:=some 37) (v:=?_) (a':=?_) (bm 69 63) rfl rfl (take_ofW HT_.out HW_.out (by kernel_rfl)) (fun _ _ _ h => h) (Or.inl ⟨by rfl,?_⟩) hHeld ?_ ?_
             rotate_left
             ·rintro w' ⟨s0,s1,s2,s3,s4,s5,s6,s7,s8,s9,s10,s11,s12,s13,s14,s15⟩
              go_simp
              with_reducible rfl
             rotate_left
             ·simp only [Act.put,setIfInBounds_toArray,set_cons_zero,set_cons_succ,i64_w,i32_w]
              rfl
             refine one_ (i:=6) (N:=some 38) (bm 69 127) rfl rfl (one_of HT_.out (by kernel_rfl)) (by decide) (fun K hK => ?_)
             refine goes_ Tryd.func46 (by kernel_rfl) rfl #[.int .i64 a0_1,.int .i64 0,.int .i64 7] (by rfl) rfl rfl mA ?_
             with_reducible refine (spec_l01In.calls a0_1 0 7 true _ A20.out).mono ?_
             rintro e w' ⟨rfl,⟨nd,rfl⟩⟩
             refine ⟨_,rfl,?_⟩
             refine hK.out _ _ ⟨(blk_cell BK181.out 0).trans rfl,(blk_cell BK181.out 1).trans rfl,(blk_cell BK181.out 2).trans rfl,(blk_cell BK181.out 3).trans rfl,(blk_cell BK181.out 4).trans rfl,(blk_cell BK181.out 5).trans rfl,(blk_cell BK181.out 6).trans rfl,(blk_cell BK181.out 7).trans rfl,(blk_cell BK181.out 8).trans rfl,(blk_cell BK181.out 9).trans rfl,(blk_cell BK181.out 10).trans rfl,(blk_cell BK181.out 11).trans rfl,(blk_cell BK181.out 12).trans rfl,(blk_cell BK181.out 13).trans rfl,(blk_cell BK181.out 14).trans rfl,(blk_cell BK181.out 15).trans rfl⟩ (fun hHeld => ?_)
             clear hK K
             refine norm_ (a':=?_) ?_ ?_
             rotate_left
             ·show Act.put _ (some 38) _ = _
              simp only [Act.put,setIfInBounds_toArray,set_cons_zero,set_cons_succ,i64_w,i32_w]
              rfl
             refine pV_ 7 39 (bm 69 255) HT_.out ?_
             refine pV_ 8 40 (bm 69 511) HT_.out ?_
             refine pV_ 9 41 (bm 69 1023) HT_.out ?_
             refine pV_ 11 43 (bm 69 3071) HT_.out ?_
             refine take_ (i:=10) (N:=some 42) (v:=?_) (a':=?_) (bm 69 4095) rfl rfl (take_ofW HT_.out HW_.out (by kernel_rfl)) (fun _ _ _ h => h) (Or.inl ⟨by rfl,?_⟩) hHeld ?_ ?_
             rotate_left
             ·rintro w' ⟨s0,s1,s2,s3,s4,s5,s6,s7,s8,s9,s10,s11,s12,s13,s14,s15⟩
              go_simp
              with_reducible rfl
             rotate_left
             ·simp only [Act.put,setIfInBounds_toArray,set_cons_zero,set_cons_succ,i64_w,i32_w]
              rfl
             refine take_ (i:=12) (N:=some 44) (v:=?_) (a':=?_) (bm 69 8191) rfl rfl (take_ofW HT_.out HW_.out (by kernel_rfl)) (fun _ _ _ h => h) (Or.inl ⟨by rfl,?_⟩) hHeld ?_ ?_
             rotate_left
             ·rintro w' ⟨s0,s1,s2,s3,s4,s5,s6,s7,s8,s9,s10,s11,s12,s13,s14,s15⟩
              go_simp
              with_reducible rfl
             rotate_left
             ·simp only [Act.put,setIfInBounds_toArray,set_cons_zero,set_cons_succ,i64_w,i32_w]
              rfl
             refine pV_ 13 45 (bm 69 16383) HT_.out ?_
             refine one_ (i:=14) (N:=some 46) (bm 69 32767) rfl rfl (one_of HT_.out (by kernel_rfl)) (by decide) (fun K hK => ?_)
             refine goes_ Tryd.func47 (by kernel_rfl) rfl #[.bool (decide (a0_1 > 1))] (by rfl) rfl rfl mA ?_
             with_reducible refine (spec_l01Bit.calls (decide (a0_1 > 1)) t188 _ A22.out).mono ?_
             rintro e w' ⟨rfl,⟨nd,rfl⟩⟩
             refine ⟨_,rfl,?_⟩
             refine hK.out _ _ ⟨(blk_cell BK181.out 0).trans rfl,(blk_cell BK181.out 1).trans rfl,(blk_cell BK181.out 2).trans rfl,(blk_cell BK181.out 3).trans rfl,(blk_cell BK181.out 4).trans rfl,(blk_cell BK181.out 5).trans rfl,(blk_cell BK181.out 6).trans rfl,(blk_cell BK181.out 7).trans rfl,(blk_cell BK181.out 8).trans rfl,(blk_cell BK181.out 9).trans rfl,(blk_cell BK181.out 10).trans rfl,(blk_cell BK181.out 11).trans rfl,(blk_cell BK181.out 12).trans rfl,(blk_cell BK181.out 13).trans rfl,(blk_cell BK181.out 14).trans rfl,(blk_cell BK181.out 15).trans rfl⟩ (fun hHeld => ?_)
             clear hK K
             refine norm_ (a':=?_) ?_ ?_
             rotate_left
             ·show Act.put _ (some 46) _ = _
              simp only [Act.put,setIfInBounds_toArray,set_cons_zero,set_cons_succ,i64_w,i32_w]
              rfl
             refine one_ (i:=15) (N:=some 47) (bm 69 65535) rfl rfl (one_of HT_.out (by kernel_rfl)) (by decide) (fun K hK => ?_)
             refine goes_ Tryd.func46 (by kernel_rfl) rfl #[.int .i64 a0_2,.int .i64 t188,.int .i64 999999] (by rfl) rfl rfl mA ?_
             with_reducible refine (spec_l01In.calls a0_2 t188 999999 true _ A23.out).mono ?_
             rintro e w' ⟨rfl,⟨nd,rfl⟩⟩
             refine ⟨_,rfl,?_⟩
             refine hK.out _ _ ⟨(blk_cell BK181.out 0).trans rfl,(blk_cell BK181.out 1).trans rfl,(blk_cell BK181.out 2).trans rfl,(blk_cell BK181.out 3).trans rfl,(blk_cell BK181.out 4).trans rfl,(blk_cell BK181.out 5).trans rfl,(blk_cell BK181.out 6).trans rfl,(blk_cell BK181.out 7).trans rfl,(blk_cell BK181.out 8).trans rfl,(blk_cell BK181.out 9).trans rfl,(blk_cell BK181.out 10).trans rfl,(blk_cell BK181.out 11).trans rfl,(blk_cell BK181.out 12).trans rfl,(blk_cell BK181.out 13).trans rfl,(blk_cell BK181.out 14).trans rfl,(blk_cell BK181.out 15).trans rfl⟩ (fun hHeld => ?_)
             clear hK K
             refine norm_ (a':=?_) ?_ ?_
             rotate_left
             ·show Act.put _ (some 47) _ = _
              simp only [Act.put,setIfInBounds_toArray,set_cons_zero,set_cons_succ,i64_w,i32_w]
              rfl
             refine pV_ 16 48 (bm 69 131071) HT_.out ?_
             refine pV_ 17 49 (bm 69 262143) HT_.out ?_
             refine pV_ 18 50 (bm 69 524287) HT_.out ?_
             refine pV_ 19 51 (bm 69 1048575) HT_.out ?_
             refine pV_ 20 52 (bm 69 2097151) HT_.out ?_
             refine pV_ 21 53 (bm 69 4194303) HT_.out ?_
             refine take_ (i:=22) (N:=some 54) (v:=?_) (a':=?_) (bm 69 8388607) rfl rfl (take_ofW HT_.out HW_.out (by kernel_rfl)) (fun _ _ _ h => h) (Or.inl ⟨by rfl,?_⟩) hHeld ?_ ?_
             rotate_left
             ·rintro w' ⟨s0,s1,s2,s3,s4,s5,s6,s7,s8,s9,s10,s11,s12,s13,s14,s15⟩
              go_simp
              with_reducible rfl
             rotate_left
             ·simp only [Act.put,setIfInBounds_toArray,set_cons_zero,set_cons_succ,i64_w,i32_w]
              rfl
             refine one_ (i:=23) (N:=some 55) (bm 69 16777215) rfl rfl (one_of HT_.out (by kernel_rfl)) (by decide) (fun K hK => ?_)
             refine goes_ Tryd.func48 (by kernel_rfl) rfl #[.agg #[.int .i64 a0_3,.int .i64 a0_4,.int .i64 a0_5,.int .i64 a0_6,.int .i64 a0_7,.string a0_8]] (by rfl) rfl rfl mA ?_
             with_reducible refine (spec_RecordOK.calls k1 a0_3 a0_4 a0_5 a0_6 a0_7 a0_8 true _ A26.out).mono ?_
             rintro e w43 ⟨rfl,hb⟩
             refine ⟨_,rfl,?_⟩
             have n0_ := Aside0.mk (blk_below (g:=gb181) (o:=.cells #[.int .i64 a0_0,.int .i64 a0_1,.int .i64 a0_2,.int .i64 a0_3,.int .i64 a0_4,.int .i64 a0_5,.int .i64 a0_6,.int .i64 a0_7,.string a0_8,.slice A0_9 l0_9.length c0_9,.int .i64 a0_10,.int .i64 a0_11,.int .i64 a0_12,.int .i64 a0_13,.int .i64 a0_14,.int .i64 a0_15] 51 (0,0)) (kA BK181.out) hb)
             have n1_ := Aside0.mk (below_step bA hb)
             clear BK181
             clear HB
             have BK181 := n0_
             have HB := n1_
             clear n0_ n1_
             (try clear hb)
             (try clear hb2)
             (try clear hk)
             (try clear hi)
             refine hK.out _ _ ⟨(blk_cell BK181.out 0).trans rfl,(blk_cell BK181.out 1).trans rfl,(blk_cell BK181.out 2).trans rfl,(blk_cell BK181.out 3).trans rfl,(blk_cell BK181.out 4).trans rfl,(blk_cell BK181.out 5).trans rfl,(blk_cell BK181.out 6).trans rfl,(blk_cell BK181.out 7).trans rfl,(blk_cell BK181.out 8).trans rfl,(blk_cell BK181.out 9).trans rfl,(blk_cell BK181.out 10).trans rfl,(blk_cell BK181.out 11).trans rfl,(blk_cell BK181.out 12).trans rfl,(blk_cell BK181.out 13).trans rfl,(blk_cell BK181.out 14).trans rfl,(blk_cell BK181.out 15).trans rfl⟩ (fun hHeld => ?_)
             clear hK K
             refine norm_ (a':=?_) ?_ ?_
             rotate_left
             ·show Act.put _ (some 55) _ = _
              simp only [Act.put,setIfInBounds_toArray,set_cons_zero,set_cons_succ,i64_w,i32_w]
              rfl
             refine pV_ 24 56 (bm 69 33554431) HT_.out ?_
             refine pV_ 25 57 (bm 69 67108863) HT_.out ?_
             refine pV_ 26 58 (bm 69 134217727) HT_.out ?_
             refine pV_ 28 60 (bm 69 402653183) HT_.out ?_
             refine take_ (i:=27) (N:=some 59) (v:=?_) (a':=?_) (bm 69 536870911) rfl rfl (take_ofW HT_.out HW_.out (by kernel_rfl)) (fun _ _ _ h => h) (Or.inl ⟨by rfl,?_⟩) hHeld ?_ ?_
             rotate_left
             ·rintro w' ⟨s0,s1,s2,s3,s4,s5,s6,s7,s8,s9,s10,s11,s12,s13,s14,s15⟩
              go_simp
              with_reducible rfl
             rotate_left
             ·simp only [Act.put,setIfInBounds_toArray,set_cons_zero,set_cons_succ,i64_w,i32_w]
              rfl
             refine take_ (i:=29) (N:=some 61) (v:=?_) (a':=?_) (bm 69 1073741823) rfl rfl (take_ofW HT_.out HW_.out (by kernel_rfl)) (fun _ _ _ h => h) (Or.inl ⟨by rfl,?_⟩) hHeld ?_ ?_
             rotate_left
             ·rintro w' ⟨s0,s1,s2,s3,s4,s5,s6,s7,s8,s9,s10,s11,s12,s13,s14,s15⟩
              go_simp
              with_reducible rfl
             rotate_left
             ·simp only [Act.put,setIfInBounds_toArray,set_cons_zero,set_cons_succ,i64_w,i32_w]
              rfl
             refine pV_ 30 62 (bm 69 2147483647) HT_.out ?_
             refine pV_ 31 63 (bm 69 4294967295) HT_.out ?_
             refine pV_ 32 64 (bm 69 8589934591) HT_.out ?_
             refine pV_ 33 65 (bm 69 17179869183) HT_.out ?_
             refine pV_ 34 66 (bm 69 34359738367) HT_.out ?_
             refine take_ (i:=35) (N:=some 67) (v:=?_) (a':=?_) (bm 69 68719476735) rfl rfl (take_ofW HT_.out HW_.out (by kernel_rfl)) (fun _ _ _ h => h) (Or.inl ⟨by rfl,?_⟩) hHeld ?_ ?_
             rotate_left
             ·rintro w' ⟨s0,s1,s2,s3,s4,s5,s6,s7,s8,s9,s10,s11,s12,s13,s14,s15⟩
              go_simp
              with_reducible rfl
             rotate_left
             ·simp only [Act.put,setIfInBounds_toArray,set_cons_zero,set_cons_succ,i64_w,i32_w]
              rfl
             refine pV_ 36 68 (bm 69 137438953471) HT_.out ?_
             refine pV_ 37 69 (bm 69 274877906943) HT_.out ?_
             refine pU_ 38 70 (bm 69 549755813887) HT_.out ?_
             refine pU_ 39 71 (bm 69 1099511627775) HT_.out ?_
             refine pU_ 40 72 (bm 69 2199023255551) HT_.out ?_
             refine pU_ 41 73 (bm 69 4398046511103) HT_.out ?_
             refine pU_ 42 74 (bm 69 8796093022207) HT_.out ?_
             refine pU_ 43 75 (bm 69 17592186044415) HT_.out ?_
             refine pU_ 44 76 (bm 69 35184372088831) HT_.out ?_
             refine pU_ 45 77 (bm 69 70368744177663) HT_.out ?_
             refine pU_ 46 78 (bm 69 140737488355327) HT_.out ?_
             refine pV_ 47 79 (bm 69 281474976710655) HT_.out ?_
             refine pV_ 48 80 (bm 69 562949953421311) HT_.out ?_
             refine pV_ 49 81 (bm 69 1125899906842623) HT_.out ?_
             refine pV_ 50 82 (bm 69 2251799813685247) HT_.out ?_
             refine pV_ 51 83 (bm 69 4503599627370495) HT_.out ?_
             refine pV_ 52 84 (bm 69 9007199254740991) HT_.out ?_
             refine take_ (i:=53) (N:=some 85) (v:=?_) (a':=?_) (bm 69 18014398509481983) rfl rfl (take_ofW HT_.out HW_.out (by kernel_rfl)) (fun _ _ _ h => h) (Or.inl ⟨by rfl,?_⟩) hHeld ?_ ?_
             rotate_left
             ·rintro w' ⟨s0,s1,s2,s3,s4,s5,s6,s7,s8,s9,s10,s11,s12,s13,s14,s15⟩
              go_simp
              with_reducible rfl
             rotate_left
             ·simp only [Act.put,setIfInBounds_toArray,set_cons_zero,set_cons_succ,i64_w,i32_w]
              rfl
             refine one_ (i:=54) (N:=some 86) (bm 69 36028797018963967) rfl rfl (one_of HT_.out (by kernel_rfl)) (by decide) (fun K hK => ?_)
             refine goes_ Tryd.func49 (by kernel_rfl) rfl #[.agg #[.int .i64 a0_10,.int .i64 a0_11,.int .i64 a0_12,.int .i64 a0_13,.int .i64 a0_14,.int .i64 a0_15]] (by rfl) rfl rfl mA ?_
             with_reducible refine (spec_AggOK.calls a0_10 a0_11 a0_12 a0_13 a0_14 a0_15 false _ A30.out).mono ?_
             rintro e w44 ⟨rfl,hb⟩
             refine ⟨_,rfl,?_⟩
             have n0_ := Aside0.mk (blk_below (g:=gb181) (o:=.cells #[.int .i64 a0_0,.int .i64 a0_1,.int .i64 a0_2,.int .i64 a0_3,.int .i64 a0_4,.int .i64 a0_5,.int .i64 a0_6,.int .i64 a0_7,.string a0_8,.slice A0_9 l0_9.length c0_9,.int .i64 a0_10,.int .i64 a0_11,.int .i64 a0_12,.int .i64 a0_13,.int .i64 a0_14,.int .i64 a0_15] 51 (0,0)) (kA BK181.out) hb)
             have n1_ := Aside0.mk (below_step bA hb)
             clear BK181
             clear HB
             have BK181 := n0_
             have HB := n1_
             clear n0_ n1_
             (try clear hb)
             (try clear hb2)
             (try clear hk)
             (try clear hi)
             refine hK.out _ _ ⟨(blk_cell BK181.out 0).trans rfl,(blk_cell BK181.out 1).trans rfl,(blk_cell BK181.out 2).trans rfl,(blk_cell BK181.out 3).trans rfl,(blk_cell BK181.out 4).trans rfl,(blk_cell BK181.out 5).trans rfl,(blk_cell BK181.out 6).trans rfl,(blk_cell BK181.out 7).trans rfl,(blk_cell BK181.out 8).trans rfl,(blk_cell BK181.out 9).trans rfl,(blk_cell BK181.out 10).trans rfl,(blk_cell BK181.out 11).trans rfl,(blk_cell BK181.out 12).trans rfl,(blk_cell BK181.out 13).trans rfl,(blk_cell BK181.out 14).trans rfl,(blk_cell BK181.out 15).trans rfl⟩ (fun hHeld => ?_)
             clear hK K
             refine norm_ (a':=?_) ?_ ?_
             rotate_left
             ·show Act.put _ (some 86) _ = _
              simp only [Act.put,setIfInBounds_toArray,set_cons_zero,set_cons_succ,i64_w,i32_w]
              rfl
             refine pV_ 55 87 (bm 69 72057594037927935) HT_.out ?_
             refine pV_ 56 88 (bm 69 144115188075855871) HT_.out ?_
             refine pU_ 57 89 (bm 69 288230376151711743) HT_.out ?_
             refine pU_ 58 90 (bm 69 576460752303423487) HT_.out ?_
             refine pU_ 59 91 (bm 69 1152921504606846975) HT_.out ?_
             refine pU_ 60 92 (bm 69 2305843009213693951) HT_.out ?_
             refine pV_ 61 93 (bm 69 4611686018427387903) HT_.out ?_
             refine pV_ 62 94 (bm 69 9223372036854775807) HT_.out ?_
             refine pU_ 63 95 (bm 69 18446744073709551615) HT_.out ?_
             refine pU_ 64 96 (bm 69 36893488147419103231) HT_.out ?_
             refine pU_ 65 97 (bm 69 73786976294838206463) HT_.out ?_
             refine pU_ 66 98 (bm 69 147573952589676412927) HT_.out ?_
             refine pV_ 67 99 (bm 69 295147905179352825855) HT_.out ?_
             refine pV_ 68 2 (bm 69 590295810358705651711) HT_.out ?_
             refine done_ (done_of HT_.out (by kernel_rfl)) ?_
             try go_wp2
             go_ret
             exact ⟨by first | rfl | (simp only [i64_w,i32_w] <;> rfl) | (simp [errW_none,errW_some] <;> rfl) | (simp [*,errW_none,errW_some] <;> rfl),bA⟩
           ·rw [if_neg c29] at H
            have c29b0 : (a0_3 == 3) = false := beq_eq_false_iff_ne.mpr c29
            have c29b1 : (a0_3 != 3) = true := bne_iff_ne.mpr c29
            revert k a0_0 a0_1 a0_2 a0_3 a0_4 a0_5 a0_6 a0_7 a0_8 A0_9 c0_9 l0_9 a0_10 a0_11 a0_12 a0_13 a0_14 a0_15 r w hu51 hu84 hu47 hu49 HR0_9 HC0_9 zq1_1 gb181 w2 zq1_2 zq1_3 GW181 GE181 zq1_4 zq1_5 wr u2 u4 u6 u7 u8 u9 u10 u11 u12 u13 u14 u15 u16 u17 u18 u19 u20 u21 u22 u23 u24 u25 u26 u27 u28 zq1_6 zq1_7 zq1_8 x3_1 BK181 HB k1 zq1_9 HK1 c3b0 A18 A20 t188 A22 A23 A17 H A26 c28b0 c28b1 c29 c29b0 c29b1; exact hm_.out
set_option maxHeartbeats 8000000 in
set_option maxRecDepth 100000 in
theorem spec_WorkerOK_cut3 : spec_WorkerOK_cut2.1 := by
           intro k a0_0 a0_1 a0_2 a0_3 a0_4 a0_5 a0_6 a0_7 a0_8 A0_9 c0_9 l0_9 a0_10 a0_11 a0_12 a0_13 a0_14 a0_15 r w hu51 hu84 hu47 hu49 HR0_9 HC0_9 zq2_1 gb181 w2 zq2_2 zq2_3 GW181 GE181 zq2_4 zq2_5 wr u2 u4 u6 u7 u8 u9 u10 u11 u12 u13 u14 u15 u16 u17 u18 u19 u20 u21 u22 u23 u24 u25 u26 u27 u28 zq2_6 zq2_7 zq2_8 x3_1 BK181 HB k1 zq2_9 HK1 c3b0 A18 A20 t188 A22 A23 A17 H A26 c28b0 c28b1 c29 c29b0 c29b1
           by_cases c45 : a0_1 = 6
           ·rw [if_pos c45] at H
            have c45b0 : (a0_1 == 6) = true := beq_iff_eq.mpr c45
            have c45b1 : (a0_1 != 6) = false := bne_eq_false_iff_eq.mpr c45
            clear c45
            by_cases c46 : a0_3 = 4
            ·rw [if_pos c46] at H
             have c46b0 : (a0_3 == 4) = true := beq_iff_eq.mpr c46
             have c46b1 : (a0_3 != 4) = false := bne_eq_false_iff_eq.mpr c46
             clear c46
             replace H := Option.bind_eq_some_iff.mp H
             obtain ⟨t192,A470,H⟩ := H
             try dsimp only at H
             have A47 := Aside0.mk A470
             clear A470
             by_cases c48 : t192 = true
             ·subst c48
              rw [if_pos rfl] at H
              by_cases c49 : a0_10 ≤ 1000
              ·rw [if_pos c49] at H
               have c49b0 : decide (a0_10 ≤ 1000) = true := decide_eq_true c49
               clear c49
               obtain rfl := Option.some.inj H
               have hcz50_0 : wr.cell? ⟨gb181,0,none⟩ = some (.int .i64 a0_0) := (blk_cell BK181.out 0).trans rfl
               have hcz50_1 : wr.cell? ⟨gb181,1,none⟩ = some (.int .i64 a0_1) := (blk_cell BK181.out 1).trans rfl
               have hcz50_2 : wr.cell? ⟨gb181,2,none⟩ = some (.int .i64 a0_2) := (blk_cell BK181.out 2).trans rfl
               have hcz50_3 : wr.cell? ⟨gb181,3,none⟩ = some (.int .i64 a0_3) := (blk_cell BK181.out 3).trans rfl
               have hcz50_4 : wr.cell? ⟨gb181,4,none⟩ = some (.int .i64 a0_4) := (blk_cell BK181.out 4).trans rfl
               have hcz50_5 : wr.cell? ⟨gb181,5,none⟩ = some (.int .i64 a0_5) := (blk_cell BK181.out 5).trans rfl
               have hcz50_6 : wr.cell? ⟨gb181,6,none⟩ = some (.int .i64 a0_6) := (blk_cell BK181.out 6).trans rfl
               have hcz50_7 : wr.cell? ⟨gb181,7,none⟩ = some (.int .i64 a0_7) := (blk_cell BK181.out 7).trans rfl
               have hcz50_8 : wr.cell? ⟨gb181,8,none⟩ = some (.string a0_8) := (blk_cell BK181.out 8).trans rfl
               have hcz50_9 : wr.cell? ⟨gb181,9,none⟩ = some (.slice A0_9 l0_9.length c0_9) := (blk_cell BK181.out 9).trans rfl
               have hcz50_10 : wr.cell? ⟨gb181,10,none⟩ = some (.int .i64 a0_10) := (blk_cell BK181.out 10).trans rfl
               have hcz50_11 : wr.cell? ⟨gb181,11,none⟩ = some (.int .i64 a0_11) := (blk_cell BK181.out 11).trans rfl
               have hcz50_12 : wr.cell? ⟨gb181,12,none⟩ = some (.int .i64 a0_12) := (blk_cell BK181.out 12).trans rfl
               have hcz50_13 : wr.cell? ⟨gb181,13,none⟩ = some (.int .i64 a0_13) := (blk_cell BK181.out 13).trans rfl
               have hcz50_14 : wr.cell? ⟨gb181,14,none⟩ = some (.int .i64 a0_14) := (blk_cell BK181.out 14).trans rfl
               have hcz50_15 : wr.cell? ⟨gb181,15,none⟩ = some (.int .i64 a0_15) := (blk_cell BK181.out 15).trans rfl
               have hfz50_0 := blk_frozen BK181.out 0
               have hfz50_1 := blk_frozen BK181.out 1
               have hfz50_2 := blk_frozen BK181.out 2
               have hfz50_3 := blk_frozen BK181.out 3
               have hfz50_4 := blk_frozen BK181.out 4
               have hfz50_5 := blk_frozen BK181.out 5
               have hfz50_6 := blk_frozen BK181.out 6
               have hfz50_7 := blk_frozen BK181.out 7
               have hfz50_8 := blk_frozen BK181.out 8
               have hfz50_9 := blk_frozen BK181.out 9
               have hfz50_10 := blk_frozen BK181.out 10
               have hfz50_11 := blk_frozen BK181.out 11
               have hfz50_12 := blk_frozen BK181.out 12
               have hfz50_13 := blk_frozen BK181.out 13
               have hfz50_14 := blk_frozen BK181.out 14
               have hfz50_15 := blk_frozen BK181.out 15
               try go_wp2_with (first | ((with_reducible refine gate_callee (f:=46) rfl ?_); refine goesL_ (some 31) rfl rfl Tryd.func46 (by kernel_rfl) rfl #[.int .i64 a0_1,.int .i64 4,.int .i64 6] rfl mA ?_; (with_reducible refine (spec_l01In.calls a0_1 4 6 true _ A17.out).mono ?_); rintro e w' ⟨rfl,⟨nd,rfl⟩⟩; refine ⟨_,rfl,?_⟩))
               (try (rw [drewN_self wr]; generalize hq_ : World.drewN wr _ = wr; have n0_ : Aside0 (wr.heap[gb181]? = some (.cells #[.int .i64 a0_0,.int .i64 a0_1,.int .i64 a0_2,.int .i64 a0_3,.int .i64 a0_4,.int .i64 a0_5,.int .i64 a0_6,.int .i64 a0_7,.string a0_8,.slice A0_9 l0_9.length c0_9,.int .i64 a0_10,.int .i64 a0_11,.int .i64 a0_12,.int .i64 a0_13,.int .i64 a0_14,.int .i64 a0_15] 51 (0,0))) := ⟨by rw [← hq_]; exact (kA BK181.out)⟩; have n1_ : Aside0 (Below w.heap.size w wr) := ⟨by rw [← hq_]; exact bA⟩; clear BK181 HB hq_; have BK181 := n0_; have HB := n1_; clear n0_ n1_))
               have n0_ := Aside0.mk (blk_drew BK181.out)
               have n1_ := Aside0.mk (below_drew1 HB.out)
               clear BK181
               clear HB
               have BK181 := n0_
               have HB := n1_
               clear n0_ n1_
               refine start_ (n:=69) (S:=fun w' => w'.cell? ⟨gb181,0,none⟩ = some (.int .i64 a0_0) ∧ w'.cell? ⟨gb181,1,none⟩ = some (.int .i64 a0_1) ∧ w'.cell? ⟨gb181,2,none⟩ = some (.int .i64 a0_2) ∧ w'.cell? ⟨gb181,3,none⟩ = some (.int .i64 a0_3) ∧ w'.cell? ⟨gb181,4,none⟩ = some (.int .i64 a0_4) ∧ w'.cell? ⟨gb181,5,none⟩ = some (.int .i64 a0_5) ∧ w'.cell? ⟨gb181,6,none⟩ = some (.int .i64 a0_6) ∧ w'.cell? ⟨gb181,7,none⟩ = some (.int .i64 a0_7) ∧ w'.cell? ⟨gb181,8,none⟩ = some (.string a0_8) ∧ w'.cell? ⟨gb181,9,none⟩ = some (.slice A0_9 l0_9.length c0_9) ∧ w'.cell? ⟨gb181,10,none⟩ = some (.int .i64 a0_10) ∧ w'.cell? ⟨gb181,11,none⟩ = some (.int .i64 a0_11) ∧ w'.cell? ⟨gb181,12,none⟩ = some (.int .i64 a0_12) ∧ w'.cell? ⟨gb181,13,none⟩ = some (.int .i64 a0_13) ∧ w'.cell? ⟨gb181,14,none⟩ = some (.int .i64 a0_14) ∧ w'.cell? ⟨gb181,15,none⟩ = some (.int .i64 a0_15)) (ds := []) (bm 69 0) (by kernel_rfl) rfl rfl ⟨(blk_cell BK181.out 0).trans rfl,(blk_cell BK181.out 1).trans rfl,(blk_cell BK181.out 2).trans rfl,(blk_cell BK181.out 3).trans rfl,(blk_cell BK181.out 4).trans rfl,(blk_cell BK181.out 5).trans rfl,(blk_cell BK181.out 6).trans rfl,(blk_cell BK181.out 7).trans rfl,(blk_cell BK181.out 8).trans rfl,(blk_cell BK181.out 9).trans rfl,(blk_cell BK181.out 10).trans rfl,(blk_cell BK181.out 11).trans rfl,(blk_cell BK181.out 12).trans rfl,(blk_cell BK181.out 13).trans rfl,(blk_cell BK181.out 14).trans rfl,(blk_cell BK181.out 15).trans rfl⟩ (fun hHeld => ?_); refine with_tabW spec_WorkerOK.tab8 spec_WorkerOK.bits8 (fun HT_ HW_ => ?_)
               generalize wr.drew = w51 at BK181 HB hHeld ⊢
               refine pV_ 0 32 (bm 69 1) HT_.out ?_
               refine take_ (i:=1) (N:=some 33) (v:=?_) (a':=?_) (bm 69 3) rfl rfl (take_ofW HT_.out HW_.out (by kernel_rfl)) (fun _ _ _ h => h) (Or.inl ⟨by rfl,?_⟩) hHeld ?_ ?_
               rotate_left
               ·rintro w' ⟨s0,s1,s2,s3,s4,s5,s6,s7,s8,s9,s10,s11,s12,s13,s14,s15⟩
                go_simp
                with_reducible rfl
               rotate_left
               ·simp only [Act.put,setIfInBounds_toArray,set_cons_zero,set_cons_succ,i64_w,i32_w]
                rfl
               refine one_ (i:=2) (N:=some 34) (bm 69 7) rfl rfl (one_of HT_.out (by kernel_rfl)) (by decide) (fun K hK => ?_)
               refine goes_ Tryd.func46 (by kernel_rfl) rfl #[.int .i64 a0_0,.int .i64 0,.int .i64 9] (by rfl) rfl rfl mA ?_
               with_reducible refine (spec_l01In.calls a0_0 0 9 true _ A18.out).mono ?_
               rintro e w' ⟨rfl,⟨nd,rfl⟩⟩
               refine ⟨_,rfl,?_⟩
               refine hK.out _ _ ⟨(blk_cell BK181.out 0).trans rfl,(blk_cell BK181.out 1).trans rfl,(blk_cell BK181.out 2).trans rfl,(blk_cell BK181.out 3).trans rfl,(blk_cell BK181.out 4).trans rfl,(blk_cell BK181.out 5).trans rfl,(blk_cell BK181.out 6).trans rfl,(blk_cell BK181.out 7).trans rfl,(blk_cell BK181.out 8).trans rfl,(blk_cell BK181.out 9).trans rfl,(blk_cell BK181.out 10).trans rfl,(blk_cell BK181.out 11).trans rfl,(blk_cell BK181.out 12).trans rfl,(blk_cell BK181.out 13).trans rfl,(blk_cell BK181.out 14).trans rfl,(blk_cell BK181.out 15).trans rfl⟩ (fun hHeld => ?_)
               clear hK K
               refine norm_ (a':=?_) ?_ ?_
               rotate_left
               ·show Act.put _ (some 34) _ = _
                simp only [Act.put,setIfInBounds_toArray,set_cons_zero,set_cons_succ,i64_w,i32_w]
                rfl
               refine pV_ 3 35 (bm 69 15) HT_.out ?_
               refine pV_ 4 36 (bm 69 31) HT_.out ?_
               refine take_ (i:=5) (N:=some 37) (v:=?_) (a':=?_) (bm 69 63) rfl rfl (take_ofW HT_.out HW_.out (by kernel_rfl)) (fun _ _ _ h => h) (Or.inl ⟨by rfl,?_⟩) hHeld ?_ ?_
               rotate_left
               ·rintro w' ⟨s0,s1,s2,s3,s4,s5,s6,s7,s8,s9,s10,s11,s12,s13,s14,s15⟩
                go_simp
                with_reducible rfl
               rotate_left
               ·simp only [Act.put,setIfInBounds_toArray,set_cons_zero,set_cons_succ,i64_w,i32_w]
                rfl
               refine one_ (i:=6) (N:=some 38) (bm 69 127) rfl rfl (one_of HT_.out (by kernel_rfl)) (by decide) (fun K hK => ?_)
               refine goes_ Tryd.func46 (by kernel_rfl) rfl #[.int .i64 a0_1,.int .i64 0,.int .i64 7] (by rfl) rfl rfl mA ?_
               with_reducible refine (spec_l01In.calls a0_1 0 7 true _ A20.out).mono ?_
               rintro e w' ⟨rfl,⟨nd,rfl⟩⟩
               refine ⟨_,rfl,?_⟩
               refine hK.out _ _ ⟨(blk_cell BK181.out 0).trans rfl,(blk_cell BK181.out 1).trans rfl,(blk_cell BK181.out 2).trans rfl,(blk_cell BK181.out 3).trans rfl,(blk_cell BK181.out 4).trans rfl,(blk_cell BK181.out 5).trans rfl,(blk_cell BK181.out 6).trans rfl,(blk_cell BK181.out 7).trans rfl,(blk_cell BK181.out 8).trans rfl,(blk_cell BK181.out 9).trans rfl,(blk_cell BK181.out 10).trans rfl,(blk_cell BK181.out 11).trans rfl,(blk_cell BK181.out 12).trans rfl,(blk_cell BK181.out 13).trans rfl,(blk_cell BK181.out 14).trans rfl,(blk_cell BK181.out 15).trans rfl⟩ (fun hHeld => ?_)
               clear hK K
               refine norm_ (a':=?_) ?_ ?_
               rotate_left
               ·show Act.put _ (some 38) _ = _
                simp only [Act.put,setIfInBounds_toArray,set_cons_zero,set_cons_succ,i64_w,i32_w]
                rfl
               refine pV_ 7 39 (bm 69 255) HT_.out ?_
               refine pV_ 8 40 (bm 69 511) HT_.out ?_
               refine pV_ 9 41 (bm 69 1023) HT_.out ?_
               refine pV_ 11 43 (bm 69 3071) HT_.out ?_
               refine take_ (i:=10) (N:=some 42) (v:=?_) (a':=?_) (bm 69 4095) rfl rfl (take_ofW HT_.out HW_.out (by kernel_rfl)) (fun _ _ _ h => h) (Or.inl ⟨by rfl,?_⟩) hHeld ?_ ?_
               rotate_left
               ·rintro w' ⟨s0,s1,s2,s3,s4,s5,s6,s7,s8,s9,s10,s11,s12,s13,s14,s15⟩
                go_simp
                with_reducible rfl
               rotate_left
               ·simp only [Act.put,setIfInBounds_toArray,set_cons_zero,set_cons_succ,i64_w,i32_w]
                rfl
               refine take_ (i:=12) (N:=some 44) (v:=?_) (a':=?_) (bm 69 8191) rfl rfl (take_ofW HT_.out HW_.out (by kernel_rfl)) (fun _ _ _ h => h) (Or.inl ⟨by rfl,?_⟩) hHeld ?_ ?_
               rotate_left
               ·rintro w' ⟨s0,s1,s2,s3,s4,s5,s6,s7,s8,s9,s10,s11,s12,s13,s14,s15⟩
                go_simp
                with_reducible rfl
               rotate_left
               ·simp only [Act.put,setIfInBounds_toArray,set_cons_zero,set_cons_succ,i64_w,i32_w]
                rfl
               refine pV_ 13 45 (bm 69 16383) HT_.out ?_
               refine one_ (i:=14) (N:=some 46) (bm 69 32767) rfl rfl (one_of HT_.out (by kernel_rfl)) (by decide) (fun K hK => ?_)
               refine goes_ Tryd.func47 (by kernel_rfl) rfl #[.bool (decide (a0_1 > 1))] (by rfl) rfl rfl mA ?_
               with_reducible refine (spec_l01Bit.calls (decide (a0_1 > 1)) t188 _ A22.out).mono ?_
               rintro e w' ⟨rfl,⟨nd,rfl⟩⟩
               refine ⟨_,rfl,?_⟩
               refine hK.out _ _ ⟨(blk_cell BK181.out 0).trans rfl,(blk_cell BK181.out 1).trans rfl,(blk_cell BK181.out 2).trans rfl,(blk_cell BK181.out 3).trans rfl,(blk_cell BK181.out 4).trans rfl,(blk_cell BK181.out 5).trans rfl,(blk_cell BK181.out 6).trans rfl,(blk_cell BK181.out 7).trans rfl,(blk_cell BK181.out 8).trans rfl,(blk_cell BK181.out 9).trans rfl,(blk_cell BK181.out 10).trans rfl,(blk_cell BK181.out 11).trans rfl,(blk_cell BK181.out 12).trans rfl,(blk_cell BK181.out 13).trans rfl,(blk_cell BK181.out 14).trans rfl,(blk_cell BK181.out 15).trans rfl⟩ (fun hHeld => ?_)
               clear hK K
               refine norm_ (a':=?_) ?_ ?_
               rotate_left
               ·show Act.put _ (some 46) _ = _
                simp only [Act.put,setIfInBounds_toArray,set_cons_zero,set_cons_succ,i64_w,i32_w]
                rfl
               refine one_ (i:=15) (N:=some 47) (bm 69 65535) rfl rfl (one_of HT_.out (by kernel_rfl)) (by decide) (fun K hK => ?_)
               refine goes_ Tryd.func46 (by kernel_rfl) rfl #[.int .i64 a0_2,.int .i64 t188,.int .i64 999999] (by rfl) rfl rfl mA ?_
               with_reducible refine (spec_l01In.calls a0_2 t188 999999 true _ A23.out).mono ?_
               rintro e w' ⟨rfl,⟨nd,rfl⟩⟩
               refine ⟨_,rfl,?_⟩
               refine hK.out _ _ ⟨(blk_cell BK181.out 0).trans rfl,(blk_cell BK181.out 1).trans rfl,(blk_cell BK181.out 2).trans rfl,(blk_cell BK181.out 3).trans rfl,(blk_cell BK181.out 4).trans rfl,(blk_cell BK181.out 5).trans rfl,(blk_cell BK181.out 6).trans rfl,(blk_cell BK181.out 7).trans rfl,(blk_cell BK181.out 8).trans rfl,(blk_cell BK181.out 9).trans rfl,(blk_cell BK181.out 10).trans rfl,(blk_cell BK181.out 11).trans rfl,(blk_cell BK181.out 12).trans rfl,(blk_cell BK181.out 13).trans rfl,(blk_cell BK181.out 14).trans rfl,(blk_cell BK181.out 15).trans rfl⟩ (fun hHeld => ?_)
               clear hK K
               refine norm_ (a':=?_) ?_ ?_
               rotate_left
               ·show Act.put _ (some 47) _ = _
                simp only [Act.put,setIfInBounds_toArray,set_cons_zero,set_cons_succ,i64_w,i32_w]
                rfl
               refine pV_ 16 48 (bm 69 131071) HT_.out ?_
               refine pV_ 17 49 (bm 69 262143) HT_.out ?_
               refine pV_ 18 50 (bm 69 524287) HT_.out ?_
               refine pV_ 19 51 (bm 69 1048575) HT_.out ?_
               refine pV_ 20 52 (bm 69 2097151) HT_.out ?_
               refine pV_ 21 53 (bm 69 4194303) HT_.out ?_
               refine take_ (i:=22) (N:=some 54) (v:=?_) (a':=?_) (bm 69 8388607) rfl rfl (take_ofW HT_.out HW_.out (by kernel_rfl)) (fun _ _ _ h => h) (Or.inl ⟨by rfl,?_⟩) hHeld ?_ ?_
               rotate_left
               ·rintro w' ⟨s0,s1,s2,s3,s4,s5,s6,s7,s8,s9,s10,s11,s12,s13,s14,s15⟩
                go_simp
                with_reducible rfl
               rotate_left
               ·simp only [Act.put,setIfInBounds_toArray,set_cons_zero,set_cons_succ,i64_w,i32_w]
                rfl
               refine one_ (i:=23) (N:=some 55) (bm 69 16777215) rfl rfl (one_of HT_.out (by kernel_rfl)) (by decide) (fun K hK => ?_)
               refine goes_ Tryd.func48 (by kernel_rfl) rfl #[.agg #[.int .i64 a0_3,.int .i64 a0_4,.int .i64 a0_5,.int .i64 a0_6,.int .i64 a0_7,.string a0_8]] (by rfl) rfl rfl mA ?_
               with_reducible refine (spec_RecordOK.calls k1 a0_3 a0_4 a0_5 a0_6 a0_7 a0_8 true _ A26.out).mono ?_
               rintro e w52 ⟨rfl,hb⟩
               refine ⟨_,rfl,?_⟩
               have n0_ := Aside0.mk (blk_below (g:=gb181) (o:=.cells #[.int .i64 a0_0,.int .i64 a0_1,.int .i64 a0_2,.int .i64 a0_3,.int .i64 a0_4,.int .i64 a0_5,.int .i64 a0_6,.int .i64 a0_7,.string a0_8,.slice A0_9 l0_9.length c0_9,.int .i64 a0_10,.int .i64 a0_11,.int .i64 a0_12,.int .i64 a0_13,.int .i64 a0_14,.int .i64 a0_15] 51 (0,0)) (kA BK181.out) hb)
               have n1_ := Aside0.mk (below_step bA hb)
               clear BK181
               clear HB
               have BK181 := n0_
               have HB := n1_
               clear n0_ n1_
               (try clear hb)
               (try clear hb2)
               (try clear hk)
               (try clear hi)
               refine hK.out _ _ ⟨(blk_cell BK181.out 0).trans rfl,(blk_cell BK181.out 1).trans rfl,(blk_cell BK181.out 2).trans rfl,(blk_cell BK181.out 3).trans rfl,(blk_cell BK181.out 4).trans rfl,(blk_cell BK181.out 5).trans rfl,(blk_cell BK181.out 6).trans rfl,(blk_cell BK181.out 7).trans rfl,(blk_cell BK181.out 8).trans rfl,(blk_cell BK181.out 9).trans rfl,(blk_cell BK181.out 10).trans rfl,(blk_cell BK181.out 11).trans rfl,(blk_cell BK181.out 12).trans rfl,(blk_cell BK181.out 13).trans rfl,(blk_cell BK181.out 14).trans rfl,(blk_cell BK181.out 15).trans rfl⟩ (fun hHeld => ?_)
               clear hK K
               refine norm_ (a':=?_) ?_ ?_
               rotate_left
               ·show Act.put _ (some 55) _ = _
                simp only [Act.put,setIfInBounds_toArray,set_cons_zero,set_cons_succ,i64_w,i32_w]
                rfl
               refine pV_ 24 56 (bm 69 33554431) HT_.out ?_
               refine pV_ 25 57 (bm 69 67108863) HT_.out ?_
               refine pV_ 26 58 (bm 69 134217727) HT_.out ?_
               refine pV_ 28 60 (bm 69 402653183) HT_.out ?_
               refine take_ (i:=27) (N:=some 59) (v:=?_) (a':=?_) (bm 69 536870911) rfl rfl (take_ofW HT_.out HW_.out (by kernel_rfl)) (fun _ _ _ h => h) (Or.inl ⟨by rfl,?_⟩) hHeld ?_ ?_
               rotate_left
               ·rintro w' ⟨s0,s1,s2,s3,s4,s5,s6,s7,s8,s9,s10,s11,s12,s13,s14,s15⟩
                go_simp
                with_reducible rfl
               rotate_left
               ·simp only [Act.put,setIfInBounds_toArray,set_cons_zero,set_cons_succ,i64_w,i32_w]
                rfl
               refine take_ (i:=29) (N:=some 61) (v:=?_) (a':=?_) (bm 69 1073741823) rfl rfl (take_ofW HT_.out HW_.out (by kernel_rfl)) (fun _ _ _ h => h) (Or.inl ⟨by rfl,?_⟩) hHeld ?_ ?_
               rotate_left
               ·rintro w' ⟨s0,s1,s2,s3,s4,s5,s6,s7,s8,s9,s10,s11,s12,s13,s14,s15⟩
                go_simp
                with_reducible rfl
               rotate_left
               ·simp only [Act.put,setIfInBounds_toArray,set_cons_zero,set_cons_succ,i64_w,i32_w]
                rfl
               refine pV_ 30 62 (bm 69 2147483647) HT_.out ?_
               refine pV_ 31 63 (bm 69 4294967295) HT_.out ?_
               refine pV_ 32 64 (bm 69 8589934591) HT_.out ?_
               refine pV_ 33 65 (bm 69 17179869183) HT_.out ?_
               refine pV_ 34 66 (bm 69 34359738367) HT_.out ?_
               refine take_ (i:=35) (N:=some 67) (v:=?_) (a':=?_) (bm 69 68719476735) rfl rfl (take_ofW HT_.out HW_.out (by kernel_rfl)) (fun _ _ _ h => h) (Or.inl ⟨by rfl,?_⟩) hHeld ?_ ?_
               rotate_left
               ·rintro w' ⟨s0,s1,s2,s3,s4,s5,s6,s7,s8,s9,s10,s11,s12,s13,s14,s15⟩
                go_simp
                with_reducible rfl
               rotate_left
               ·simp only [Act.put,setIfInBounds_toArray,set_cons_zero,set_cons_succ,i64_w,i32_w]
                rfl
               refine pV_ 36 68 (bm 69 137438953471) HT_.out ?_
               refine pV_ 37 69 (bm 69 274877906943) HT_.out ?_
               refine pV_ 38 70 (bm 69 549755813887) HT_.out ?_
               refine take_ (i:=39) (N:=some 71) (v:=?_) (a':=?_) (bm 69 1099511627775) rfl rfl (take_ofW HT_.out HW_.out (by kernel_rfl)) (fun _ _ _ h => h) (Or.inl ⟨by rfl,?_⟩) hHeld ?_ ?_
               rotate_left
               ·rintro w' ⟨s0,s1,s2,s3,s4,s5,s6,s7,s8,s9,s10,s11,s12,s13,s14,s15⟩
                go_simp
                with_reducible rfl
               rotate_left
               ·simp only [Act.put,setIfInBounds_toArray,set_cons_zero,set_cons_succ,i64_w,i32_w]
                rfl
               refine pV_ 40 72 (bm 69 2199023255551) HT_.out ?_
               refine pV_ 41 73 (bm 69 4398046511103) HT_.out ?_
               refine pV_ 42 74 (bm 69 8796093022207) HT_.out ?_
               refine pV_ 43 75 (bm 69 17592186044415) HT_.out ?_
               refine take_ (i:=44) (N:=some 76) (v:=?_) (a':=?_) (bm 69 35184372088831) rfl rfl (take_ofW HT_.out HW_.out (by kernel_rfl)) (fun _ _ _ h => h) (Or.inl ⟨by rfl,?_⟩) hHeld ?_ ?_
               rotate_left
               ·rintro w' ⟨s0,s1,s2,s3,s4,s5,s6,s7,s8,s9,s10,s11,s12,s13,s14,s15⟩
                go_simp
                with_reducible rfl
               rotate_left
               ·simp only [Act.put,setIfInBounds_toArray,set_cons_zero,set_cons_succ,i64_w,i32_w]
                rfl
               refine pV_ 45 77 (bm 69 70368744177663) HT_.out ?_
               refine pV_ 46 78 (bm 69 140737488355327) HT_.out ?_
               refine pV_ 47 79 (bm 69 281474976710655) HT_.out ?_
               refine pV_ 48 80 (bm 69 562949953421311) HT_.out ?_
               refine pV_ 49 81 (bm 69 1125899906842623) HT_.out ?_
               refine pV_ 50 82 (bm 69 2251799813685247) HT_.out ?_
               refine pV_ 51 83 (bm 69 4503599627370495) HT_.out ?_
               refine pV_ 52 84 (bm 69 9007199254740991) HT_.out ?_
               refine take_ (i:=53) (N:=some 85) (v:=?_) (a':=?_) (bm 69 18014398509481983) rfl rfl (take_ofW HT_.out HW_.out (by kernel_rfl)) (fun _ _ _ h => h) (Or.inl ⟨by rfl,?_⟩) hHeld ?_ ?_
               rotate_left
               ·rintro w' ⟨s0,s1,s2,s3,s4,s5,s6,s7,s8,s9,s10,s11,s12,s13,s14,s15⟩
                go_simp
                with_reducible rfl
               rotate_left
               ·simp only [Act.put,setIfInBounds_toArray,set_cons_zero,set_cons_succ,i64_w,i32_w]
                rfl
               refine one_ (i:=54) (N:=some 86) (bm 69 36028797018963967) rfl rfl (one_of HT_.out (by kernel_rfl)) (by decide) (fun K hK => ?_)
               refine goes_ Tryd.func49 (by kernel_rfl) rfl #[.agg #[.int .i64 a0_10,.int .i64 a0_11,.int .i64 a0_12,.int .i64 a0_13,.int .i64 a0_14,.int .i64 a0_15]] (by rfl) rfl rfl mA ?_
               with_reducible refine (spec_AggOK.calls a0_10 a0_11 a0_12 a0_13 a0_14 a0_15 true _ A47.out).mono ?_
               rintro e w53 ⟨rfl,hb⟩
               refine ⟨_,rfl,?_⟩
               have n0_ := Aside0.mk (blk_below (g:=gb181) (o:=.cells #[.int .i64 a0_0,.int .i64 a0_1,.int .i64 a0_2,.int .i64 a0_3,.int .i64 a0_4,.int .i64 a0_5,.int .i64 a0_6,.int .i64 a0_7,.string a0_8,.slice A0_9 l0_9.length c0_9,.int .i64 a0_10,.int .i64 a0_11,.int .i64 a0_12,.int .i64 a0_13,.int .i64 a0_14,.int .i64 a0_15] 51 (0,0)) (kA BK181.out) hb)
               have n1_ := Aside0.mk (below_step bA hb)
               clear BK181
               clear HB
               have BK181 := n0_
               have HB := n1_
               clear n0_ n1_
               (try clear hb)
               (try clear hb2)
               (try clear hk)
               (try clear hi)
               refine hK.out _ _ ⟨(blk_cell BK181.out 0).trans rfl,(blk_cell BK181.out 1).trans rfl,(blk_cell BK181.out 2).trans rfl,(blk_cell BK181.out 3).trans rfl,(blk_cell BK181.out 4).trans rfl,(blk_cell BK181.out 5).trans rfl,(blk_cell BK181.out 6).trans rfl,(blk_cell BK181.out 7).trans rfl,(blk_cell BK181.out 8).trans rfl,(blk_cell BK181.out 9).trans rfl,(blk_cell BK181.out 10).trans rfl,(blk_cell BK181.out 11).trans rfl,(blk_cell BK181.out 12).trans rfl,(blk_cell BK181.out 13).trans rfl,(blk_cell BK181.out 14).trans rfl,(blk_cell BK181.out 15).trans rfl⟩ (fun hHeld => ?_)
               clear hK K
               refine norm_ (a':=?_) ?_ ?_
               rotate_left
               ·show Act.put _ (some 86) _ = _
                simp only [Act.put,setIfInBounds_toArray,set_cons_zero,set_cons_succ,i64_w,i32_w]
                rfl
               refine pV_ 55 87 (bm 69 72057594037927935) HT_.out ?_
               refine pV_ 56 88 (bm 69 144115188075855871) HT_.out ?_
               refine pV_ 57 89 (bm 69 288230376151711743) HT_.out ?_
               refine pV_ 58 90 (bm 69 576460752303423487) HT_.out ?_
               refine take_ (i:=59) (N:=some 91) (v:=?_) (a':=?_) (bm 69 1152921504606846975) rfl rfl (take_ofW HT_.out HW_.out (by kernel_rfl)) (fun _ _ _ h => h) (Or.inl ⟨by rfl,?_⟩) hHeld ?_ ?_
               rotate_left
               ·rintro w' ⟨s0,s1,s2,s3,s4,s5,s6,s7,s8,s9,s10,s11,s12,s13,s14,s15⟩
                go_simp
                with_reducible rfl
               rotate_left
               ·simp only [Act.put,setIfInBounds_toArray,set_cons_zero,set_cons_succ,i64_w,i32_w]
                rfl
               refine pV_ 60 92 (bm 69 2305843009213693951) HT_.out ?_
               refine pV_ 61 93 (bm 69 4611686018427387903) HT_.out ?_
               refine pV_ 62 94 (bm 69 9223372036854775807) HT_.out ?_
               refine pV_ 63 95 (bm 69 18446744073709551615) HT_.out ?_
               refine take_ (i:=64) (N:=some 96) (v:=?_) (a':=?_) (bm 69 36893488147419103231) rfl rfl (take_ofW HT_.out HW_.out (by kernel_rfl)) (fun _ _ _ h => h) (Or.inl ⟨by rfl,?_⟩) hHeld ?_ ?_
               rotate_left
               ·rintro w' ⟨s0,s1,s2,s3,s4,s5,s6,s7,s8,s9,s10,s11,s12,s13,s14,s15⟩
                go_simp
                with_reducible rfl
               rotate_left
               ·simp only [Act.put,setIfInBounds_toArray,set_cons_zero,set_cons_succ,i64_w,i32_w]
                rfl
               refine pV_ 65 97 (bm 69 73786976294838206463) HT_.out ?_
               refine pV_ 66 98 (bm 69 147573952589676412927) HT_.out ?_
               refine pV_ 67 99 (bm 69 295147905179352825855) HT_.out ?_
               refine pV_ 68 2 (bm 69 590295810358705651711) HT_.out ?_
               refine done_ (done_of HT_.out (by kernel_rfl)) ?_
               try go_wp2
               go_ret
               exact ⟨by first | rfl | (simp only [i64_w,i32_w] <;> rfl) | (simp [errW_none,errW_some] <;> rfl) | (simp [*,errW_none,errW_some] <;> rfl),bA⟩
              ·rw [if_neg c49] at H
               have c49b0 : decide (a0_10 ≤ 1000) = false := decide_eq_false c49
               clear c49
               obtain rfl := Option.some.inj H
               have hcz54_0 : wr.cell? ⟨gb181,0,none⟩ = some (.int .i64 a0_0) := (blk_cell BK181.out 0).trans rfl
               have hcz54_1 : wr.cell? ⟨gb181,1,none⟩ = some (.int .i64 a0_1) := (blk_cell BK181.out 1).trans rfl
               have hcz54_2 : wr.cell? ⟨gb181,2,none⟩ = some (.int .i64 a0_2) := (blk_cell BK181.out 2).trans rfl
               have hcz54_3 : wr.cell? ⟨gb181,3,none⟩ = some (.int .i64 a0_3) := (blk_cell BK181.out 3).trans rfl
               have hcz54_4 : wr.cell? ⟨gb181,4,none⟩ = some (.int .i64 a0_4) := (blk_cell BK181.out 4).trans rfl
               have hcz54_5 : wr.cell? ⟨gb181,5,none⟩ = some (.int .i64 a0_5) := (blk_cell BK181.out 5).trans rfl
               have hcz54_6 : wr.cell? ⟨gb181,6,none⟩ = some (.int .i64 a0_6) := (blk_cell BK181.out 6).trans rfl
               have hcz54_7 : wr.cell? ⟨gb181,7,none⟩ = some (.int .i64 a0_7) := (blk_cell BK181.out 7).trans rfl
               have hcz54_8 : wr.cell? ⟨gb181,8,none⟩ = some (.string a0_8) := (blk_cell BK181.out 8).trans rfl
               have hcz54_9 : wr.cell? ⟨gb181,9,none⟩ = some (.slice A0_9 l0_9.length c0_9) := (blk_cell BK181.out 9).trans rfl
               have hcz54_10 : wr.cell? ⟨gb181,10,none⟩ = some (.int .i64 a0_10) := (blk_cell BK181.out 10).trans rfl
               have hcz54_11 : wr.cell? ⟨gb181,11,none⟩ = some (.int .i64 a0_11) := (blk_cell BK181.out 11).trans rfl
               have hcz54_12 : wr.cell? ⟨gb181,12,none⟩ = some (.int .i64 a0_12) := (blk_cell BK181.out 12).trans rfl
               have hcz54_13 : wr.cell? ⟨gb181,13,none⟩ = some (.int .i64 a0_13) := (blk_cell BK181.out 13).trans rfl
               have hcz54_14 : wr.cell? ⟨gb181,14,none⟩ = some (.int .i64 a0_14) := (blk_cell BK181.out 14).trans rfl
               have hcz54_15 : wr.cell? ⟨gb181,15,none⟩ = some (.int .i64 a0_15) := (blk_cell BK181.out 15).trans rfl
               have hfz54_0 := blk_frozen BK181.out 0
               have hfz54_1 := blk_frozen BK181.out 1
               have hfz54_2 := blk_frozen BK181.out 2
               have hfz54_3 := blk_frozen BK181.out 3
               have hfz54_4 := blk_frozen BK181.out 4
               have hfz54_5 := blk_frozen BK181.out 5
               have hfz54_6 := blk_frozen BK181.out 6
               have hfz54_7 := blk_frozen BK181.out 7
               have hfz54_8 := blk_frozen BK181.out 8
               have hfz54_9 := blk_frozen BK181.out 9
               have hfz54_10 := blk_frozen BK181.out 10
               have hfz54_11 := blk_frozen BK181.out 11
               have hfz54_12 := blk_frozen BK181.out 12
               have hfz54_13 := blk_frozen BK181.out 13
               have hfz54_14 := blk_frozen BK181.out 14
               have hfz54_15 := blk_frozen BK181.out 15
               try go_wp2_with (first | ((with_reducible refine gate_callee (f:=46) rfl ?_); refine goesL_ (some 31) rfl rfl Tryd.func46 (by kernel_rfl) rfl #[.int .i64 a0_1,.int .i64 4,.int .i64 6] rfl mA ?_; (with_reducible refine (spec_l01In.calls a0_1 4 6 true _ A17.out).mono ?_); rintro e w' ⟨rfl,⟨nd,rfl⟩⟩; refine ⟨_,rfl,?_⟩))
               (try (rw [drewN_self wr]; generalize hq_ : World.drewN wr _ = wr; have n0_ : Aside0 (wr.heap[gb181]? = some (.cells #[.int .i64 a0_0,.int .i64 a0_1,.int .i64 a0_2,.int .i64 a0_3,.int .i64 a0_4,.int .i64 a0_5,.int .i64 a0_6,.int .i64 a0_7,.string a0_8,.slice A0_9 l0_9.length c0_9,.int .i64 a0_10,.int .i64 a0_11,.int .i64 a0_12,.int .i64 a0_13,.int .i64 a0_14,.int .i64 a0_15] 51 (0,0))) := ⟨by rw [← hq_]; exact (kA BK181.out)⟩; have n1_ : Aside0 (Below w.heap.size w wr) := ⟨by rw [← hq_]; exact bA⟩; clear BK181 HB hq_; have BK181 := n0_; have HB := n1_; clear n0_ n1_))
               have n0_ := Aside0.mk (blk_drew BK181.out)
               have n1_ := Aside0.mk (below_drew1 HB.out)
               clear BK181
               clear HB
               have BK181 := n0_
               have HB := n1_
               clear n0_ n1_
               refine start_ (n:=69) (S:=fun w' => w'.cell? ⟨gb181,0,none⟩ = some (.int .i64 a0_0) ∧ w'.cell? ⟨gb181,1,none⟩ = some (.int .i64 a0_1) ∧ w'.cell? ⟨gb181,2,none⟩ = some (.int .i64 a0_2) ∧ w'.cell? ⟨gb181,3,none⟩ = some (.int .i64 a0_3) ∧ w'.cell? ⟨gb181,4,none⟩ = some (.int .i64 a0_4) ∧ w'.cell? ⟨gb181,5,none⟩ = some (.int .i64 a0_5) ∧ w'.cell? ⟨gb181,6,none⟩ = some (.int .i64 a0_6) ∧ w'.cell? ⟨gb181,7,none⟩ = some (.int .i64 a0_7) ∧ w'.cell? ⟨gb181,8,none⟩ = some (.string a0_8) ∧ w'.cell? ⟨gb181,9,none⟩ = some (.slice A0_9 l0_9.length c0_9) ∧ w'.cell? ⟨gb181,10,none⟩ = some (.int .i64 a0_10) ∧ w'.cell? ⟨gb181,11,none⟩ = some (.int .i64 a0_11) ∧ w'.cell? ⟨gb181,12,none⟩ = some (.int .i64 a0_12) ∧ w'.cell? ⟨gb181,13,none⟩ = some (.int .i64 a0_13) ∧ w'.cell? ⟨gb181,14,none⟩ = some (.int .i64 a0_14) ∧ w'.cell? ⟨gb181,15,none⟩ = some (.int .i64 a0_15)) (ds := []) (bm 69 0) (by kernel_rfl) rfl rfl ⟨(blk_cell BK181.out 0).trans rfl,(blk_cell BK181.out 1).trans rfl,(blk_cell BK181.out 2).trans rfl,(blk_cell BK181.out 3).trans rfl,(blk_cell BK181.out 4).trans rfl,(blk_cell BK181.out 5).trans rfl,(blk_cell BK181.out 6).trans rfl,(blk_cell BK181.out 7).trans rfl,(blk_cell BK181.out 8).trans rfl,(blk_cell BK181.out 9).trans rfl,(blk_cell BK181.out 10).trans rfl,(blk_cell BK181.out 11).trans rfl,(blk_cell BK181.out 12).trans rfl,(blk_cell BK181.out 13).trans rfl,(blk_cell BK181.out 14).trans rfl,(blk_cell BK181.out 15).trans rfl⟩ (fun hHeld => ?_); refine with_tabW spec_WorkerOK.tab8 spec_WorkerOK.bits8 (fun HT_ HW_ => ?_)
               generalize wr.drew = w55 at BK181 HB hHeld ⊢
               refine pV_ 0 32 (bm 69 1) HT_.out ?_
               refine take_ (i:=1) (N:=some 33) (v:=?_) (a':=?_) (bm 69 3) rfl rfl (take_ofW HT_.out HW_.out (by kernel_rfl)) (fun _ _ _ h => h) (Or.inl ⟨by rfl,?_⟩) hHeld ?_ ?_
               rotate_left
               ·rintro w' ⟨s0,s1,s2,s3,s4,s5,s6,s7,s8,s9,s10,s11,s12,s13,s14,s15⟩
                go_simp
                with_reducible rfl
               rotate_left
               ·simp only [Act.put,setIfInBounds_toArray,set_cons_zero,set_cons_succ,i64_w,i32_w]
                rfl
               refine one_ (i:=2) (N:=some 34) (bm 69 7) rfl rfl (one_of HT_.out (by kernel_rfl)) (by decide) (fun K hK => ?_)
               refine goes_ Tryd.func46 (by kernel_rfl) rfl #[.int .i64 a0_0,.int .i64 0,.int .i64 9] (by rfl) rfl rfl mA ?_
               with_reducible refine (spec_l01In.calls a0_0 0 9 true _ A18.out).mono ?_
               rintro e w' ⟨rfl,⟨nd,rfl⟩⟩
               refine ⟨_,rfl,?_⟩
               refine hK.out _ _ ⟨(blk_cell BK181.out 0).trans rfl,(blk_cell BK181.out 1).trans rfl,(blk_cell BK181.out 2).trans rfl,(blk_cell BK181.out 3).trans rfl,(blk_cell BK181.out 4).trans rfl,(blk_cell BK181.out 5).trans rfl,(blk_cell BK181.out 6).trans rfl,(blk_cell BK181.out 7).trans rfl,(blk_cell BK181.out 8).trans rfl,(blk_cell BK181.out 9).trans rfl,(blk_cell BK181.out 10).trans rfl,(blk_cell BK181.out 11).trans rfl,(blk_cell BK181.out 12).trans rfl,(blk_cell BK181.out 13).trans rfl,(blk_cell BK181.out 14).trans rfl,(blk_cell BK181.out 15).trans rfl⟩ (fun hHeld => ?_)
               clear hK K
               refine norm_ (a':=?_) ?_ ?_
               rotate_left
               ·show Act.put _ (some 34) _ = _
                simp only [Act.put,setIfInBounds_toArray,set_cons_zero,set_cons_succ,i64_w,i32_w]
                rfl
               refine pV_ 3 35 (bm 69 15) HT_.out ?_
               refine pV_ 4 36 (bm 69 31) HT_.out ?_
               refine take_ (i:=5) (N:=some 37) (v:=?_) (a':=?_) (bm 69 63) rfl rfl (take_ofW HT_.out HW_.out (by kernel_rfl)) (fun _ _ _ h => h) (Or.inl ⟨by rfl,?_⟩) hHeld ?_ ?_
               rotate_left
               ·rintro w' ⟨s0,s1,s2,s3,s4,s5,s6,s7,s8,s9,s10,s11,s12,s13,s14,s15⟩
                go_simp
                with_reducible rfl
               rotate_left
               ·simp only [Act.put,setIfInBounds_toArray,set_cons_zero,set_cons_succ,i64_w,i32_w]
                rfl
               refine one_ (i:=6) (N:=some 38) (bm 69 127) rfl rfl (one_of HT_.out (by kernel_rfl)) (by decide) (fun K hK => ?_)
               refine goes_ Tryd.func46 (by kernel_rfl) rfl #[.int .i64 a0_1,.int .i64 0,.int .i64 7] (by rfl) rfl rfl mA ?_
               with_reducible refine (spec_l01In.calls a0_1 0 7 true _ A20.out).mono ?_
               rintro e w' ⟨rfl,⟨nd,rfl⟩⟩
               refine ⟨_,rfl,?_⟩
               refine hK.out _ _ ⟨(blk_cell BK181.out 0).trans rfl,(blk_cell BK181.out 1).trans rfl,(blk_cell BK181.out 2).trans rfl,(blk_cell BK181.out 3).trans rfl,(blk_cell BK181.out 4).trans rfl,(blk_cell BK181.out 5).trans rfl,(blk_cell BK181.out 6).trans rfl,(blk_cell BK181.out 7).trans rfl,(blk_cell BK181.out 8).trans rfl,(blk_cell BK181.out 9).trans rfl,(blk_cell BK181.out 10).trans rfl,(blk_cell BK181.out 11).trans rfl,(blk_cell BK181.out 12).trans rfl,(blk_cell BK181.out 13).trans rfl,(blk_cell BK181.out 14).trans rfl,(blk_cell BK181.out 15).trans rfl⟩ (fun hHeld => ?_)
               clear hK K
               refine norm_ (a':=?_) ?_ ?_
               rotate_left
               ·show Act.put _ (some 38) _ = _
                simp only [Act.put,setIfInBounds_toArray,set_cons_zero,set_cons_succ,i64_w,i32_w]
                rfl
               refine pV_ 7 39 (bm 69 255) HT_.out ?_
               refine pV_ 8 40 (bm 69 511) HT_.out ?_
               refine pV_ 9 41 (bm 69 1023) HT_.out ?_
               refine pV_ 11 43 (bm 69 3071) HT_.out ?_
               refine take_ (i:=10) (N:=some 42) (v:=?_) (a':=?_) (bm 69 4095) rfl rfl (take_ofW HT_.out HW_.out (by kernel_rfl)) (fun _ _ _ h => h) (Or.inl ⟨by rfl,?_⟩) hHeld ?_ ?_
               rotate_left
               ·rintro w' ⟨s0,s1,s2,s3,s4,s5,s6,s7,s8,s9,s10,s11,s12,s13,s14,s15⟩
                go_simp
                with_reducible rfl
               rotate_left
               ·simp only [Act.put,setIfInBounds_toArray,set_cons_zero,set_cons_succ,i64_w,i32_w]
                rfl
               refine take_ (i:=12) (N:=some 44) (v:=?_) (a':=?_) (bm 69 8191) rfl rfl (take_ofW HT_.out HW_.out (by kernel_rfl)) (fun _ _ _ h => h) (Or.inl ⟨by rfl,?_⟩) hHeld ?_ ?_
               rotate_left
               ·rintro w' ⟨s0,s1,s2,s3,s4,s5,s6,s7,s8,s9,s10,s11,s12,s13,s14,s15⟩
                go_simp
                with_reducible rfl
               rotate_left
               ·simp only [Act.put,setIfInBounds_toArray,set_cons_zero,set_cons_succ,i64_w,i32_w]
                rfl
               refine pV_ 13 45 (bm 69 16383) HT_.out ?_
               refine one_ (i:=14) (N:=some 46) (bm 69 32767) rfl rfl (one_of HT_.out (by kernel_rfl)) (by decide) (fun K hK => ?_)
               refine goes_ Tryd.func47 (by kernel_rfl) rfl #[.bool (decide (a0_1 > 1))] (by rfl) rfl rfl mA ?_
               with_reducible refine (spec_l01Bit.calls (decide (a0_1 > 1)) t188 _ A22.out).mono ?_
               rintro e w' ⟨rfl,⟨nd,rfl⟩⟩
               refine ⟨_,rfl,?_⟩
               refine hK.out _ _ ⟨(blk_cell BK181.out 0).trans rfl,(blk_cell BK181.out 1).trans rfl,(blk_cell BK181.out 2).trans rfl,(blk_cell BK181.out 3).trans rfl,(blk_cell BK181.out 4).trans rfl,(blk_cell BK181.out 5).trans rfl,(blk_cell BK181.out 6).trans rfl,(blk_cell BK181.out 7).trans rfl,(blk_cell BK181.out 8).trans rfl,(blk_cell BK181.out 9).trans rfl,(blk_cell BK181.out 10).trans rfl,(blk_cell BK181.out 11).trans rfl,(blk_cell BK181.out 12).trans rfl,(blk_cell BK181.out 13).trans rfl,(blk_cell BK181.out 14).trans rfl,(blk_cell BK181.out 15).trans rfl⟩ (fun hHeld => ?_)
               clear hK K
               refine norm_ (a':=?_) ?_ ?_
               rotate_left
               ·show Act.put _ (some 46) _ = _
                simp only [Act.put,setIfInBounds_toArray,set_cons_zero,set_cons_succ,i64_w,i32_w]
                rfl
               refine one_ (i:=15) (N:=some 47) (bm 69 65535) rfl rfl (one_of HT_.out (by kernel_rfl)) (by decide) (fun K hK => ?_)
               refine goes_ Tryd.func46 (by kernel_rfl) rfl #[.int .i64 a0_2,.int .i64 t188,.int .i64 999999] (by rfl) rfl rfl mA ?_
               with_reducible refine (spec_l01In.calls a0_2 t188 999999 true _ A23.out).mono ?_
               rintro e w' ⟨rfl,⟨nd,rfl⟩⟩
               refine ⟨_,rfl,?_⟩
               refine hK.out _ _ ⟨(blk_cell BK181.out 0).trans rfl,(blk_cell BK181.out 1).trans rfl,(blk_cell BK181.out 2).trans rfl,(blk_cell BK181.out 3).trans rfl,(blk_cell BK181.out 4).trans rfl,(blk_cell BK181.out 5).trans rfl,(blk_cell BK181.out 6).trans rfl,(blk_cell BK181.out 7).trans rfl,(blk_cell BK181.out 8).trans rfl,(blk_cell BK181.out 9).trans rfl,(blk_cell BK181.out 10).trans rfl,(blk_cell BK181.out 11).trans rfl,(blk_cell BK181.out 12).trans rfl,(blk_cell BK181.out 13).trans rfl,(blk_cell BK181.out 14).trans rfl,(blk_cell BK181.out 15).trans rfl⟩ (fun hHeld => ?_)
               clear hK K
               refine norm_ (a':=?_) ?_ ?_
               rotate_left
               ·show Act.put _ (some 47) _ = _
                simp only [Act.put,setIfInBounds_toArray,set_cons_zero,set_cons_succ,i64_w,i32_w]
                rfl
               refine pV_ 16 48 (bm 69 131071) HT_.out ?_
               refine pV_ 17 49 (bm 69 262143) HT_.out ?_
               refine pV_ 18 50 (bm 69 524287) HT_.out ?_
               refine pV_ 19 51 (bm 69 1048575) HT_.out ?_
               refine pV_ 20 52 (bm 69 2097151) HT_.out ?_
               refine pV_ 21 53 (bm 69 4194303) HT_.out ?_
               refine take_ (i:=22) (N:=some 54) (v:=?_) (a':=?_) (bm 69 8388607) rfl rfl (take_ofW HT_.out HW_.out (by kernel_rfl)) (fun _ _ _ h => h) (Or.inl ⟨by rfl,?_⟩) hHeld ?_ ?_
               rotate_left
               ·rintro w' ⟨s0,s1,s2,s3,s4,s5,s6,s7,s8,s9,s10,s11,s12,s13,s14,s15⟩
                go_simp
                with_reducible rfl
               rotate_left
               ·simp only [Act.put,setIfInBounds_toArray,set_cons_zero,set_cons_succ,i64_w,i32_w]
                rfl
               refine one_ (i:=23) (N:=some 55) (bm 69 16777215) rfl rfl (one_of HT_.out (by kernel_rfl)) (by decide) (fun K hK => ?_)
               refine goes_ Tryd.func48 (by kernel_rfl) rfl #[.agg #[.int .i64 a0_3,.int .i64 a0_4,.int .i64 a0_5,.int .i64 a0_6,.int .i64 a0_7,.string a0_8]] (by rfl) rfl rfl mA ?_
               with_reducible refine (spec_RecordOK.calls k1 a0_3 a0_4 a0_5 a0_6 a0_7 a0_8 true _ A26.out).mono ?_
               rintro e w56 ⟨rfl,hb⟩
               refine ⟨_,rfl,?_⟩
               have n0_ := Aside0.mk (blk_below (g:=gb181) (o:=.cells #[.int .i64 a0_0,.int .i64 a0_1,.int .i64 a0_2,.int .i64 a0_3,.int .i64 a0_4,.int .i64 a0_5,.int .i64 a0_6,.int .i64 a0_7,.string a0_8,.slice A0_9 l0_9.length c0_9,.int .i64 a0_10,.int .i64 a0_11,.int .i64 a0_12,.int .i64 a0_13,.int .i64 a0_14,.int .i64 a0_15] 51 (0,0)) (kA BK181.out) hb)
               have n1_ := Aside0.mk (below_step bA hb)
               clear BK181
               clear HB
               have BK181 := n0_
               have HB := n1_
               clear n0_ n1_
               (try clear hb)
               (try clear hb2)
               (try clear hk)
               (try clear hi)
               refine hK.out _ _ ⟨(blk_cell BK181.out 0).trans rfl,(blk_cell BK181.out 1).trans rfl,(blk_cell BK181.out 2).trans rfl,(blk_cell BK181.out 3).trans rfl,(blk_cell BK181.out 4).trans rfl,(blk_cell BK181.out 5).trans rfl,(blk_cell BK181.out 6).trans rfl,(blk_cell BK181.out 7).trans rfl,(blk_cell BK181.out 8).trans rfl,(blk_cell BK181.out 9).trans rfl,(blk_cell BK181.out 10).trans rfl,(blk_cell BK181.out 11).trans rfl,(blk_cell BK181.out 12).trans rfl,(blk_cell BK181.out 13).trans rfl,(blk_cell BK181.out 14).trans rfl,(blk_cell BK181.out 15).trans rfl⟩ (fun hHeld => ?_)
               clear hK K
               refine norm_ (a':=?_) ?_ ?_
               rotate_left
               ·show Act.put _ (some 55) _ = _
                simp only [Act.put,setIfInBounds_toArray,set_cons_zero,set_cons_succ,i64_w,i32_w]
                rfl
               refine pV_ 24 56 (bm 69 33554431) HT_.out ?_
               refine pV_ 25 57 (bm 69 67108863) HT_.out ?_
               refine pV_ 26 58 (bm 69 134217727) HT_.out ?_
               refine pV_ 28 60 (bm 69 402653183) HT_.out ?_
               refine take_ (i:=27) (N:=some 59) (v:=?_) (a':=?_) (bm 69 536870911) rfl rfl (take_ofW HT_.out HW_.out (by kernel_rfl)) (fun _ _ _ h => h) (Or.inl ⟨by rfl,?_⟩) hHeld ?_ ?_
               rotate_left
               ·rintro w' ⟨s0,s1,s2,s3,s4,s5,s6,s7,s8,s9,s10,s11,s12,s13,s14,s15⟩
                go_simp
                with_reducible rfl
               rotate_left
               ·simp only [Act.put,setIfInBounds_toArray,set_cons_zero,set_cons_succ,i64_w,i32_w]
                rfl
               refine take_ (i:=29) (N:=some 61) (v:=?_) (a':=?_) (bm 69 1073741823) rfl rfl (take_ofW HT_.out HW_.out (by kernel_rfl)) (fun _ _ _ h => h) (Or.inl ⟨by rfl,?_⟩) hHeld ?_ ?_
               rotate_left
               ·rintro w' ⟨s0,s1,s2,s3,s4,s5,s6,s7,s8,s9,s10,s11,s12,s13,s14,s15⟩
                go_simp
                with_reducible rfl
               rotate_left
               ·simp only [Act.put,setIfInBounds_toArray,set_cons_zero,set_cons_succ,i64_w,i32_w]
                rfl
               refine pV_ 30 62 (bm 69 2147483647) HT_.out ?_
               refine pV_ 31 63 (bm 69 4294967295) HT_.out ?_
               refine pV_ 32 64 (bm 69 8589934591) HT_.out ?_
               refine pV_ 33 65 (bm 69 17179869183) HT_.out ?_
               refine pV_ 34 66 (bm 69 34359738367) HT_.out ?_
               refine take_ (i:=35) (N:=some 67) (v:=?_) (a':=?_) (bm 69 68719476735) rfl rfl (take_ofW HT_.out HW_.out (by kernel_rfl)) (fun _ _ _ h => h) (Or.inl ⟨by rfl,?_⟩) hHeld ?_ ?_
               rotate_left
               ·rintro w' ⟨s0,s1,s2,s3,s4,s5,s6,s7,s8,s9,s10,s11,s12,s13,s14,s15⟩
                go_simp
                with_reducible rfl
               rotate_left
               ·simp only [Act.put,setIfInBounds_toArray,set_cons_zero,set_cons_succ,i64_w,i32_w]
                rfl
               refine pV_ 36 68 (bm 69 137438953471) HT_.out ?_
               refine pV_ 37 69 (bm 69 274877906943) HT_.out ?_
               refine pV_ 38 70 (bm 69 549755813887) HT_.out ?_
               refine take_ (i:=39) (N:=some 71) (v:=?_) (a':=?_) (bm 69 1099511627775) rfl rfl (take_ofW HT_.out HW_.out (by kernel_rfl)) (fun _ _ _ h => h) (Or.inl ⟨by rfl,?_⟩) hHeld ?_ ?_
               rotate_left
               ·rintro w' ⟨s0,s1,s2,s3,s4,s5,s6,s7,s8,s9,s10,s11,s12,s13,s14,s15⟩
                go_simp
                with_reducible rfl
               rotate_left
               ·simp only [Act.put,setIfInBounds_toArray,set_cons_zero,set_cons_succ,i64_w,i32_w]
                rfl
               refine pV_ 40 72 (bm 69 2199023255551) HT_.out ?_
               refine pV_ 41 73 (bm 69 4398046511103) HT_.out ?_
               refine pV_ 42 74 (bm 69 8796093022207) HT_.out ?_
               refine pV_ 43 75 (bm 69 17592186044415) HT_.out ?_
               refine take_ (i:=44) (N:=some 76) (v:=?_) (a':=?_) (bm 69 35184372088831) rfl rfl (take_ofW HT_.out HW_.out (by kernel_rfl)) (fun _ _ _ h => h) (Or.inl ⟨by rfl,?_⟩) hHeld ?_ ?_
               rotate_left
               ·rintro w' ⟨s0,s1,s2,s3,s4,s5,s6,s7,s8,s9,s10,s11,s12,s13,s14,s15⟩
                go_simp
                with_reducible rfl
               rotate_left
               ·simp only [Act.put,setIfInBounds_toArray,set_cons_zero,set_cons_succ,i64_w,i32_w]
                rfl
               refine pV_ 45 77 (bm 69 70368744177663) HT_.out ?_
               refine pV_ 46 78 (bm 69 140737488355327) HT_.out ?_
               refine pV_ 47 79 (bm 69 281474976710655) HT_.out ?_
               refine pV_ 48 80 (bm 69 562949953421311) HT_.out ?_
               refine pV_ 49 81 (bm 69 1125899906842623) HT_.out ?_
               refine pV_ 50 82 (bm 69 2251799813685247) HT_.out ?_
               refine pV_ 51 83 (bm 69 4503599627370495) HT_.out ?_
               refine pV_ 52 84 (bm 69 9007199254740991) HT_.out ?_
               refine take_ (i:=53) (N:=some 85) (v:=?_) (a':=?_) (bm 69 18014398509481983) rfl rfl (take_ofW HT_.out HW_.out (by kernel_rfl)) (fun _ _ _ h => h) (Or.inl ⟨by rfl,?_⟩) hHeld ?_ ?_
               rotate_left
               ·rintro w' ⟨s0,s1,s2,s3,s4,s5,s6,s7,s8,s9,s10,s11,s12,s13,s14,s15⟩
                go_simp
                with_reducible rfl
               rotate_left
               ·simp only [Act.put,setIfInBounds_toArray,set_cons_zero,set_cons_succ,i64_w,i32_w]
                rfl
               refine one_ (i:=54) (N:=some 86) (bm 69 36028797018963967) rfl rfl (one_of HT_.out (by kernel_rfl)) (by decide) (fun K hK => ?_)
               refine goes_ Tryd.func49 (by kernel_rfl) rfl #[.agg #[.int .i64 a0_10,.int .i64 a0_11,.int .i64 a0_12,.int .i64 a0_13,.int .i64 a0_14,.int .i64 a0_15]] (by rfl) rfl rfl mA ?_
               with_reducible refine (spec_AggOK.calls a0_10 a0_11 a0_12 a0_13 a0_14 a0_15 true _ A47.out).mono ?_
               rintro e w57 ⟨rfl,hb⟩
               refine ⟨_,rfl,?_⟩
               have n0_ := Aside0.mk (blk_below (g:=gb181) (o:=.cells #[.int .i64 a0_0,.int .i64 a0_1,.int .i64 a0_2,.int .i64 a0_3,.int .i64 a0_4,.int .i64 a0_5,.int .i64 a0_6,.int .i64 a0_7,.string a0_8,.slice A0_9 l0_9.length c0_9,.int .i64 a0_10,.int .i64 a0_11,.int .i64 a0_12,.int .i64 a0_13,.int .i64 a0_14,.int .i64 a0_15] 51 (0,0)) (kA BK181.out) hb)
               have n1_ := Aside0.mk (below_step bA hb)
               clear BK181
               clear HB
               have BK181 := n0_
               have HB := n1_
               clear n0_ n1_
               (try clear hb)
               (try clear hb2)
               (try clear hk)
               (try clear hi)
               refine hK.out _ _ ⟨(blk_cell BK181.out 0).trans rfl,(blk_cell BK181.out 1).trans rfl,(blk_cell BK181.out 2).trans rfl,(blk_cell BK181.out 3).trans rfl,(blk_cell BK181.out 4).trans rfl,(blk_cell BK181.out 5).trans rfl,(blk_cell BK181.out 6).trans rfl,(blk_cell BK181.out 7).trans rfl,(blk_cell BK181.out 8).trans rfl,(blk_cell BK181.out 9).trans rfl,(blk_cell BK181.out 10).trans rfl,(blk_cell BK181.out 11).trans rfl,(blk_cell BK181.out 12).trans rfl,(blk_cell BK181.out 13).trans rfl,(blk_cell BK181.out 14).trans rfl,(blk_cell BK181.out 15).trans rfl⟩ (fun hHeld => ?_)
               clear hK K
               refine norm_ (a':=?_) ?_ ?_
               rotate_left
               ·show Act.put _ (some 86) _ = _
                simp only [Act.put,setIfInBounds_toArray,set_cons_zero,set_cons_succ,i64_w,i32_w]
                rfl
               refine pV_ 55 87 (bm 69 72057594037927935) HT_.out ?_
               refine pV_ 56 88 (bm 69 144115188075855871) HT_.out ?_
               refine pV_ 57 89 (bm 69 288230376151711743) HT_.out ?_
               refine pV_ 58 90 (bm 69 576460752303423487) HT_.out ?_
               refine take_ (i:=59) (N:=some 91) (v:=?_) (a':=?_) (bm 69 1152921504606846975) rfl rfl (take_ofW HT_.out HW_.out (by kernel_rfl)) (fun _ _ _ h => h) (Or.inl ⟨by rfl,?_⟩) hHeld ?_ ?_
               rotate_left
               ·rintro w' ⟨s0,s1,s2,s3,s4,s5,s6,s7,s8,s9,s10,s11,s12,s13,s14,s15⟩
                go_simp
                with_reducible rfl
               rotate_left
               ·simp only [Act.put,setIfInBounds_toArray,set_cons_zero,set_cons_succ,i64_w,i32_w]
                rfl
               refine pV_ 60 92 (bm 69 2305843009213693951) HT_.out ?_
               refine pV_ 61 93 (bm 69 4611686018427387903) HT_.out ?_
               refine pV_ 62 94 (bm 69 9223372036854775807) HT_.out ?_
               refine pU_ 63 95 (bm 69 18446744073709551615) HT_.out ?_
               refine pU_ 64 96 (bm 69 36893488147419103231) HT_.out ?_
               refine pU_ 65 97 (bm 69 73786976294838206463) HT_.out ?_
               refine pU_ 66 98 (bm 69 147573952589676412927) HT_.out ?_
               refine pV_ 67 99 (bm 69 295147905179352825855) HT_.out ?_
               refine pV_ 68 2 (bm 69 590295810358705651711) HT_.out ?_
               refine done_ (done_of HT_.out (by kernel_rfl)) ?_
               try go_wp2
               go_ret
               exact ⟨by first | rfl | (simp only [i64_w,i32_w] <;> rfl) | (simp [errW_none,errW_some] <;> rfl) | (simp [*,errW_none,errW_some] <;> rfl),bA⟩
             ·replace c48 := Bool.eq_false_iff.mpr c48
              subst c48
              rw [if_neg (show ¬ (false = true) by decide)] at H
              obtain rfl := Option.some.inj H
              have hcz58_0 : wr.cell? ⟨gb181,0,none⟩ = some (.int .i64 a0_0) := (blk_cell BK181.out 0).trans rfl
              have hcz58_1 : wr.cell? ⟨gb181,1,none⟩ = some (.int .i64 a0_1) := (blk_cell BK181.out 1).trans rfl
              have hcz58_2 : wr.cell? ⟨gb181,2,none⟩ = some (.int .i64 a0_2) := (blk_cell BK181.out 2).trans rfl
              have hcz58_3 : wr.cell? ⟨gb181,3,none⟩ = some (.int .i64 a0_3) := (blk_cell BK181.out 3).trans rfl
              have hcz58_4 : wr.cell? ⟨gb181,4,none⟩ = some (.int .i64 a0_4) := (blk_cell BK181.out 4).trans rfl
              have hcz58_5 : wr.cell? ⟨gb181,5,none⟩ = some (.int .i64 a0_5) := (blk_cell BK181.out 5).trans rfl
              have hcz58_6 : wr.cell? ⟨gb181,6,none⟩ = some (.int .i64 a0_6) := (blk_cell BK181.out 6).trans rfl
              have hcz58_7 : wr.cell? ⟨gb181,7,none⟩ = some (.int .i64 a0_7) := (blk_cell BK181.out 7).trans rfl
              have hcz58_8 : wr.cell? ⟨gb181,8,none⟩ = some (.string a0_8) := (blk_cell BK181.out 8).trans rfl
              have hcz58_9 : wr.cell? ⟨gb181,9,none⟩ = some (.slice A0_9 l0_9.length c0_9) := (blk_cell BK181.out 9).trans rfl
              have hcz58_10 : wr.cell? ⟨gb181,10,none⟩ = some (.int .i64 a0_10) := (blk_cell BK181.out 10).trans rfl
              have hcz58_11 : wr.cell? ⟨gb181,11,none⟩ = some (.int .i64 a0_11) := (blk_cell BK181.out 11).trans rfl
              have hcz58_12 : wr.cell? ⟨gb181,12,none⟩ = some (.int .i64 a0_12) := (blk_cell BK181.out 12).trans rfl
              have hcz58_13 : wr.cell? ⟨gb181,13,none⟩ = some (.int .i64 a0_13) := (blk_cell BK181.out 13).trans rfl
              have hcz58_14 : wr.cell? ⟨gb181,14,none⟩ = some (.int .i64 a0_14) := (blk_cell BK181.out 14).trans rfl
              have hcz58_15 : wr.cell? ⟨gb181,15,none⟩ = some (.int .i64 a0_15) := (blk_cell BK181.out 15).trans rfl
              have hfz58_0 := blk_frozen BK181.out 0
              have hfz58_1 := blk_frozen BK181.out 1
              have hfz58_2 := blk_frozen BK181.out 2
              have hfz58_3 := blk_frozen BK181.out 3
              have hfz58_4 := blk_frozen BK181.out 4
              have hfz58_5 := blk_frozen BK181.out 5
              have hfz58_6 := blk_frozen BK181.out 6
              have hfz58_7 := blk_frozen BK181.out 7
              have hfz58_8 := blk_frozen BK181.out 8
              have hfz58_9 := blk_frozen BK181.out 9
              have hfz58_10 := blk_frozen BK181.out 10
              have hfz58_11 := blk_frozen BK181.out 11
              have hfz58_12 := blk_frozen BK181.out 12
              have hfz58_13 := blk_frozen BK181.out 13
              have hfz58_14 := blk_frozen BK181.out 14
              have hfz58_15 := blk_frozen BK181.out 15
              try go_wp2_with (first | ((with_reducible refine gate_callee (f:=46) rfl ?_); refine goesL_ (some 31) rfl rfl Tryd.func46 (by kernel_rfl) rfl #[.int .i64 a0_1,.int .i64 4,.int .i64 6] rfl mA ?_; (with_reducible refine (spec_l01In.calls a0_1 4 6 true _ A17.out).mono ?_); rintro e w' ⟨rfl,⟨nd,rfl⟩⟩; refine ⟨_,rfl,?_⟩))
              (try (rw [drewN_self wr]; generalize hq_ : World.drewN wr _ = wr; have n0_ : Aside0 (wr.heap[gb181]? = some (.cells #[.int .i64 a0_0,.int .i64 a0_1,.int .i64 a0_2,.int .i64 a0_3,.int .i64 a0_4,.int .i64 a0_5,.int .i64 a0_6,.int .i64 a0_7,.string a0_8,.slice A0_9 l0_9.length c0_9,.int .i64 a0_10,.int .i64 a0_11,.int .i64 a0_12,.int .i64 a0_13,.int .i64 a0_14,.int .i64 a0_15] 51 (0,0))) := ⟨by rw [← hq_]; exact (kA BK181.out)⟩; have n1_ : Aside0 (Below w.heap.size w wr) := ⟨by rw [← hq_]; exact bA⟩; clear BK181 HB hq_; have BK181 := n0_; have HB := n1_; clear n0_ n1_))
              have n0_ := Aside0.mk (blk_drew BK181.out)
              have n1_ := Aside0.mk (below_drew1 HB.out)
              clear BK181
              clear HB
              have BK181 := n0_
              have HB := n1_
              clear n0_ n1_
              refine start_ (n:=69) (S:=fun w' => w'.cell? ⟨gb181,0,none⟩ = some (.int .i64 a0_0) ∧ w'.cell? ⟨gb181,1,none⟩ = some (.int .i64 a0_1) ∧ w'.cell? ⟨gb181,2,none⟩ = some (.int .i64 a0_2) ∧ w'.cell? ⟨gb181,3,none⟩ = some (.int .i64 a0_3) ∧ w'.cell? ⟨gb181,4,none⟩ = some (.int .i64 a0_4) ∧ w'.cell? ⟨gb181,5,none⟩ = some (.int .i64 a0_5) ∧ w'.cell? ⟨gb181,6,none⟩ = some (.int .i64 a0_6) ∧ w'.cell? ⟨gb181,7,none⟩ = some (.int .i64 a0_7) ∧ w'.cell? ⟨gb181,8,none⟩ = some (.string a0_8) ∧ w'.cell? ⟨gb181,9,none⟩ = some (.slice A0_9 l0_9.length c0_9) ∧ w'.cell? ⟨gb181,10,none⟩ = some (.int .i64 a0_10) ∧ w'.cell? ⟨gb181,11,none⟩ = some (.int .i64 a0_11) ∧ w'.cell? ⟨gb181,12,none⟩ = some (.int .i64 a0_12) ∧ w'.cell? ⟨gb181,13,none⟩ = some (.int .i64 a0_13) ∧ w'.cell? ⟨gb181,14,none⟩ = some (.int .i64 a0_14) ∧ w'.cell? ⟨gb181,15,none⟩ = some (.int .i64 a0_15)) (ds := []) (bm 69 0) (by kernel_rfl) rfl rfl ⟨(blk_cell BK181.out 0).trans rfl,(blk_cell BK181.out 1).trans rfl,(blk_cell BK181.out 2).trans rfl,(blk_cell BK181.out 3).trans rfl,(blk_cell BK181.out 4).trans rfl,(blk_cell BK181.out 5).trans rfl,(blk_cell BK181.out 6).trans rfl,(blk_cell BK181.out 7).trans rfl,(blk_cell BK181.out 8).trans rfl,(blk_cell BK181.out 9).trans rfl,(blk_cell BK181.out 10).trans rfl,(blk_cell BK181.out 11).trans rfl,(blk_cell BK181.out 12).trans rfl,(blk_cell BK181.out 13).trans rfl,(blk_cell BK181.out 14).trans rfl,(blk_cell BK181.out 15).trans rfl⟩ (fun hHeld => ?_); refine with_tabW spec_WorkerOK.tab8 spec_WorkerOK.bits8 (fun HT_ HW_ => ?_)
              generalize wr.drew = w59 at BK181 HB hHeld ⊢
              refine pV_ 0 32 (bm 69 1) HT_.out ?_
              refine take_ (i:=1) (N:=some 33) (v:=?_) (a':=?_) (bm 69 3) rfl rfl (take_ofW HT_.out HW_.out (by kernel_rfl)) (fun _ _ _ h => h) (Or.inl ⟨by rfl,?_⟩) hHeld ?_ ?_
              rotate_left
              ·rintro w' ⟨s0,s1,s2,s3,s4,s5,s6,s7,s8,s9,s10,s11,s12,s13,s14,s15⟩
               go_simp
               with_reducible rfl
              rotate_left
              ·simp only [Act.put,setIfInBounds_toArray,set_cons_zero,set_cons_succ,i64_w,i32_w]
               rfl
              refine one_ (i:=2) (N:=some 34) (bm 69 7) rfl rfl (one_of HT_.out (by kernel_rfl)) (by decide) (fun K hK => ?_)
              refine goes_ Tryd.func46 (by kernel_rfl) rfl #[.int .i64 a0_0,.int .i64 0,.int .i64 9] (by rfl) rfl rfl mA ?_
              with_reducible refine (spec_l01In.calls a0_0 0 9 true _ A18.out).mono ?_
              rintro e w' ⟨rfl,⟨nd,rfl⟩⟩
              refine ⟨_,rfl,?_⟩
              refine hK.out _ _ ⟨(blk_cell BK181.out 0).trans rfl,(blk_cell BK181.out 1).trans rfl,(blk_cell BK181.out 2).trans rfl,(blk_cell BK181.out 3).trans rfl,(blk_cell BK181.out 4).trans rfl,(blk_cell BK181.out 5).trans rfl,(blk_cell BK181.out 6).trans rfl,(blk_cell BK181.out 7).trans rfl,(blk_cell BK181.out 8).trans rfl,(blk_cell BK181.out 9).trans rfl,(blk_cell BK181.out 10).trans rfl,(blk_cell BK181.out 11).trans rfl,(blk_cell BK181.out 12).trans rfl,(blk_cell BK181.out 13).trans rfl,(blk_cell BK181.out 14).trans rfl,(blk_cell BK181.out 15).trans rfl⟩ (fun hHeld => ?_)
              clear hK K
              refine norm_ (a':=?_) ?_ ?_
              rotate_left
              ·show Act.put _ (some 34) _ = _
               simp only [Act.put,setIfInBounds_toArray,set_cons_zero,set_cons_succ,i64_w,i32_w]
               rfl
              refine pV_ 3 35 (bm 69 15) HT_.out ?_
              refine pV_ 4 36 (bm 69 31) HT_.out ?_
              refine take_ (i:=5) (N:=some 37) (v:=?_) (a':=?_) (bm 69 63) rfl rfl (take_ofW HT_.out HW_.out (by kernel_rfl)) (fun _ _ _ h => h) (Or.inl ⟨by rfl,?_⟩) hHeld ?_ ?_
              rotate_left
              ·rintro w' ⟨s0,s1,s2,s3,s4,s5,s6,s7,s8,s9,s10,s11,s12,s13,s14,s15⟩
               go_simp
               with_reducible rfl
              rotate_left
              ·simp only [Act.put,setIfInBounds_toArray,set_cons_zero,set_cons_succ,i64_w,i32_w]
               rfl
              refine one_ (i:=6) (N:=some 38) (bm 69 127) rfl rfl (one_of HT_.out (by kernel_rfl)) (by decide) (fun K hK => ?_)
              refine goes_ Tryd.func46 (by kernel_rfl) rfl #[.int .i64 a0_1,.int .i64 0,.int .i64 7] (by rfl) rfl rfl mA ?_
              with_reducible refine (spec_l01In.calls a0_1 0 7 true _ A20.out).mono ?_
              rintro e w' ⟨rfl,⟨nd,rfl⟩⟩
              refine ⟨_,rfl,?_⟩
              refine hK.out _ _ ⟨(blk_cell BK181.out 0).trans rfl,(blk_cell BK181.out 1).trans rfl,(blk_cell BK181.out 2).trans rfl,(blk_cell BK181.out 3).trans rfl,(blk_cell BK181.out 4).trans rfl,(blk_cell BK181.out 5).trans rfl,(blk_cell BK181.out 6).trans rfl,(blk_cell BK181.out 7).trans rfl,(blk_cell BK181.out 8).trans rfl,(blk_cell BK181.out 9).trans rfl,(blk_cell BK181.out 10).trans rfl,(blk_cell BK181.out 11).trans rfl,(blk_cell BK181.out 12).trans rfl,(blk_cell BK181.out 13).trans rfl,(blk_cell BK181.out 14).trans rfl,(blk_cell BK181.out 15).trans rfl⟩ (fun hHeld => ?_)
              clear hK K
              refine norm_ (a':=?_) ?_ ?_
              rotate_left
              ·show Act.put _ (some 38) _ = _
               simp only [Act.put,setIfInBounds_toArray,set_cons_zero,set_cons_succ,i64_w,i32_w]
               rfl
              refine pV_ 7 39 (bm 69 255) HT_.out ?_
              refine pV_ 8 40 (bm 69 511) HT_.out ?_
              refine pV_ 9 41 (bm 69 1023) HT_.out ?_
              refine pV_ 11 43 (bm 69 3071) HT_.out ?_
              refine take_ (i:=10) (N:=some 42) (v:=?_) (a':=?_) (bm 69 4095) rfl rfl (take_ofW HT_.out HW_.out (by kernel_rfl)) (fun _ _ _ h => h) (Or.inl ⟨by rfl,?_⟩) hHeld ?_ ?_
              rotate_left
              ·rintro w' ⟨s0,s1,s2,s3,s4,s5,s6,s7,s8,s9,s10,s11,s12,s13,s14,s15⟩
               go_simp
               with_reducible rfl
              rotate_left
              ·simp only [Act.put,setIfInBounds_toArray,set_cons_zero,set_cons_succ,i64_w,i32_w]
               rfl
              refine take_ (i:=12) (N:=some 44) (v:=?_) (a':=?_) (bm 69 8191) rfl rfl (take_ofW HT_.out HW_.out (by kernel_rfl)) (fun _ _ _ h => h) (Or.inl ⟨by rfl,?_⟩) hHeld ?_ ?_
              rotate_left
              ·rintro w' ⟨s0,s1,s2,s3,s4,s5,s6,s7,s8,s9,s10,s11,s12,s13,s14,s15⟩
               go_simp
               with_reducible rfl
              rotate_left
              ·simp only [Act.put,setIfInBounds_toArray,set_cons_zero,set_cons_succ,i64_w,i32_w]
               rfl
              refine pV_ 13 45 (bm 69 16383) HT_.out ?_
              refine one_ (i:=14) (N:=some 46) (bm 69 32767) rfl rfl (one_of HT_.out (by kernel_rfl)) (by decide) (fun K hK => ?_)
              refine goes_ Tryd.func47 (by kernel_rfl) rfl #[.bool (decide (a0_1 > 1))] (by rfl) rfl rfl mA ?_
              with_reducible refine (spec_l01Bit.calls (decide (a0_1 > 1)) t188 _ A22.out).mono ?_
              rintro e w' ⟨rfl,⟨nd,rfl⟩⟩
              refine ⟨_,rfl,?_⟩
              refine hK.out _ _ ⟨(blk_cell BK181.out 0).trans rfl,(blk_cell BK181.out 1).trans rfl,(blk_cell BK181.out 2).trans rfl,(blk_cell BK181.out 3).trans rfl,(blk_cell BK181.out 4).trans rfl,(blk_cell BK181.out 5).trans rfl,(blk_cell BK181.out 6).trans rfl,(blk_cell BK181.out 7).trans rfl,(blk_cell BK181.out 8).trans rfl,(blk_cell BK181.out 9).trans rfl,(blk_cell BK181.out 10).trans rfl,(blk_cell BK181.out 11).trans rfl,(blk_cell BK181.out 12).trans rfl,(blk_cell BK181.out 13).trans rfl,(blk_cell BK181.out 14).trans rfl,(blk_cell BK181.out 15).trans rfl⟩ (fun hHeld => ?_)
              clear hK K
              refine norm_ (a':=?_) ?_ ?_
              rotate_left
              ·show Act.put _ (some 46) _ = _
               simp only [Act.put,setIfInBounds_toArray,set_cons_zero,set_cons_succ,i64_w,i32_w]
               rfl
              refine one_ (i:=15) (N:=some 47) (bm 69 65535) rfl rfl (one_of HT_.out (by kernel_rfl)) (by decide) (fun K hK => ?_)
              refine goes_ Tryd.func46 (by kernel_rfl) rfl #[.int .i64 a0_2,.int .i64 t188,.int .i64 999999] (by rfl) rfl rfl mA ?_
              with_reducible refine (spec_l01In.calls a0_2 t188 999999 true _ A23.out).mono ?_
              rintro e w' ⟨rfl,⟨nd,rfl⟩⟩
              refine ⟨_,rfl,?_⟩
              refine hK.out _ _ ⟨(blk_cell BK181.out 0).trans rfl,(blk_cell BK181.out 1).trans rfl,(blk_cell BK181.out 2).trans rfl,(blk_cell BK181.out 3).trans rfl,(blk_cell BK181.out 4).trans rfl,(blk_cell BK181.out 5).trans rfl,(blk_cell BK181.out 6).trans rfl,(blk_cell BK181.out 7).trans rfl,(blk_cell BK181.out 8).trans rfl,(blk_cell BK181.out 9).trans rfl,(blk_cell BK181.out 10).trans rfl,(blk_cell BK181.out 11).trans rfl,(blk_cell BK181.out 12).trans rfl,(blk_cell BK181.out 13).trans rfl,(blk_cell BK181.out 14).trans rfl,(blk_cell BK181.out 15).trans rfl⟩ (fun hHeld => ?_)
              clear hK K
              refine norm_ (a':=?_) ?_ ?_
              rotate_left
              ·show Act.put _ (some 47) _ = _
               simp only [Act.put,setIfInBounds_toArray,set_cons_zero,set_cons_succ,i64_w,i32_w]
               rfl
              refine pV_ 16 48 (bm 69 131071) HT_.out ?_
              refine pV_ 17 49 (bm 69 262143) HT_.out ?_
              refine pV_ 18 50 (bm 69 524287) HT_.out ?_
              refine pV_ 19 51 (bm 69 1048575) HT_.out ?_
              refine pV_ 20 52 (bm 69 2097151) HT_.out ?_
              refine pV_ 21 53 (bm 69 4194303) HT_.out ?_
              refine take_ (i:=22) (N:=some 54) (v:=?_) (a':=?_) (bm 69 8388607) rfl rfl (take_ofW HT_.out HW_.out (by kernel_rfl)) (fun _ _ _ h => h) (Or.inl ⟨by rfl,?_⟩) hHeld ?_ ?_
              rotate_left
              ·rintro w' ⟨s0,s1,s2,s3,s4,s5,s6,s7,s8,s9,s10,s11,s12,s13,s14,s15⟩
               go_simp
               with_reducible rfl
              rotate_left
              ·simp only [Act.put,setIfInBounds_toArray,set_cons_zero,set_cons_succ,i64_w,i32_w]
               rfl
              refine one_ (i:=23) (N:=some 55) (bm 69 16777215) rfl rfl (one_of HT_.out (by kernel_rfl)) (by decide) (fun K hK => ?_)
              refine goes_ Tryd.func48 (by kernel_rfl) rfl #[.agg #[.int .i64 a0_3,.int .i64 a0_4,.int .i64 a0_5,.int .i64 a0_6,.int .i64 a0_7,.string a0_8]] (by rfl) rfl rfl mA ?_
              with_reducible refine (spec_RecordOK.calls k1 a0_3 a0_4 a0_5 a0_6 a0_7 a0_8 true _ A26.out).mono ?_
              rintro e w60 ⟨rfl,hb⟩
              refine ⟨_,rfl,?_⟩
              have n0_ := Aside0.mk (blk_below (g:=gb181) (o:=.cells #[.int .i64 a0_0,.int .i64 a0_1,.int .i64 a0_2,.int .i64 a0_3,.int .i64 a0_4,.int .i64 a0_5,.int .i64 a0_6,.int .i64 a0_7,.string a0_8,.slice A0_9 l0_9.length c0_9,.int .i64 a0_10,.int .i64 a0_11,.int .i64 a0_12,.int .i64 a0_13,.int .i64 a0_14,.int .i64 a0_15] 51 (0,0)) (kA BK181.out) hb)
              have n1_ := Aside0.mk (below_step bA hb)
              clear BK181
              clear HB
              have BK181 := n0_
              have HB := n1_
              clear n0_ n1_
              (try clear hb)
              (try clear hb2)
              (try clear hk)
              (try clear hi)
              refine hK.out _ _ ⟨(blk_cell BK181.out 0).trans rfl,(blk_cell BK181.out 1).trans rfl,(blk_cell BK181.out 2).trans rfl,(blk_cell BK181.out 3).trans rfl,(blk_cell BK181.out 4).trans rfl,(blk_cell BK181.out 5).trans rfl,(blk_cell BK181.out 6).trans rfl,(blk_cell BK181.out 7).trans rfl,(blk_cell BK181.out 8).trans rfl,(blk_cell BK181.out 9).trans rfl,(blk_cell BK181.out 10).trans rfl,(blk_cell BK181.out 11).trans rfl,(blk_cell BK181.out 12).trans rfl,(blk_cell BK181.out 13).trans rfl,(blk_cell BK181.out 14).trans rfl,(blk_cell BK181.out 15).trans rfl⟩ (fun hHeld => ?_)
              clear hK K
              refine norm_ (a':=?_) ?_ ?_
              rotate_left
              ·show Act.put _ (some 55) _ = _
               simp only [Act.put,setIfInBounds_toArray,set_cons_zero,set_cons_succ,i64_w,i32_w]
               rfl
              refine pV_ 24 56 (bm 69 33554431) HT_.out ?_
              refine pV_ 25 57 (bm 69 67108863) HT_.out ?_
              refine pV_ 26 58 (bm 69 134217727) HT_.out ?_
              refine pV_ 28 60 (bm 69 402653183) HT_.out ?_
              refine take_ (i:=27) (N:=some 59) (v:=?_) (a':=?_) (bm 69 536870911) rfl rfl (take_ofW HT_.out HW_.out (by kernel_rfl)) (fun _ _ _ h => h) (Or.inl ⟨by rfl,?_⟩) hHeld ?_ ?_
              rotate_left
              ·rintro w' ⟨s0,s1,s2,s3,s4,s5,s6,s7,s8,s9,s10,s11,s12,s13,s14,s15⟩
               go_simp
               with_reducible rfl
              rotate_left
              ·simp only [Act.put,setIfInBounds_toArray,set_cons_zero,set_cons_succ,i64_w,i32_w]
               rfl
              refine take_ (i:=29) (N:=some 61) (v:=?_) (a':=?_) (bm 69 1073741823) rfl rfl (take_ofW HT_.out HW_.out (by kernel_rfl)) (fun _ _ _ h => h) (Or.inl ⟨by rfl,?_⟩) hHeld ?_ ?_
              rotate_left
              ·rintro w' ⟨s0,s1,s2,s3,s4,s5,s6,s7,s8,s9,s10,s11,s12,s13,s14,s15⟩
               go_simp
               with_reducible rfl
              rotate_left
              ·simp only [Act.put,setIfInBounds_toArray,set_cons_zero,set_cons_succ,i64_w,i32_w]
               rfl
              refine pV_ 30 62 (bm 69 2147483647) HT_.out ?_
              refine pV_ 31 63 (bm 69 4294967295) HT_.out ?_
              refine pV_ 32 64 (bm 69 8589934591) HT_.out ?_
              refine pV_ 33 65 (bm 69 17179869183) HT_.out ?_
              refine pV_ 34 66 (bm 69 34359738367) HT_.out ?_
              refine take_ (i:=35) (N:=some 67) (v:=?_) (a':=?_) (bm 69 68719476735) rfl rfl (take_ofW HT_.out HW_.out (by kernel_rfl)) (fun _ _ _ h => h) (Or.inl ⟨by rfl,?_⟩) hHeld ?_ ?_
              rotate_left
              ·rintro w' ⟨s0,s1,s2,s3,s4,s5,s6,s7,s8,s9,s10,s11,s12,s13,s14,s15⟩
               go_simp
               with_reducible rfl
              rotate_left
              ·simp only [Act.put,setIfInBounds_toArray,set_cons_zero,set_cons_succ,i64_w,i32_w]
               rfl
              refine pV_ 36 68 (bm 69 137438953471) HT_.out ?_
              refine pV_ 37 69 (bm 69 274877906943) HT_.out ?_
              refine pV_ 38 70 (bm 69 549755813887) HT_.out ?_
              refine take_ (i:=39) (N:=some 71) (v:=?_) (a':=?_) (bm 69 1099511627775) rfl rfl (take_ofW HT_.out HW_.out (by kernel_rfl)) (fun _ _ _ h => h) (Or.inl ⟨by rfl,?_⟩) hHeld ?_ ?_
              rotate_left
              ·rintro w' ⟨s0,s1,s2,s3,s4,s5,s6,s7,s8,s9,s10,s11,s12,s13,s14,s15⟩
               go_simp
               with_reducible rfl
              rotate_left
              ·simp only [Act.put,setIfInBounds_toArray,set_cons_zero,set_cons_succ,i64_w,i32_w]
               rfl
              refine pV_ 40 72 (bm 69 2199023255551) HT_.out ?_
              refine pV_ 41 73 (bm 69 4398046511103) HT_.out ?_
              refine pV_ 42 74 (bm 69 8796093022207) HT_.out ?_
              refine pV_ 43 75 (bm 69 17592186044415) HT_.out ?_
              refine take_ (i:=44) (N:=some 76) (v:=?_) (a':=?_) (bm 69 35184372088831) rfl rfl (take_ofW HT_.out HW_.out (by kernel_rfl)) (fun _ _ _ h => h) (Or.inl ⟨by rfl,?_⟩) hHeld ?_ ?_
              rotate_left
              ·rintro w' ⟨s0,s1,s2,s3,s4,s5,s6,s7,s8,s9,s10,s11,s12,s13,s14,s15⟩
               go_simp
               with_reducible rfl
              rotate_left
              ·simp only [Act.put,setIfInBounds_toArray,set_cons_zero,set_cons_succ,i64_w,i32_w]
               rfl
              refine pV_ 45 77 (bm 69 70368744177663) HT_.out ?_
              refine pV_ 46 78 (bm 69 140737488355327) HT_.out ?_
              refine pV_ 47 79 (bm 69 281474976710655) HT_.out ?_
              refine pV_ 48 80 (bm 69 562949953421311) HT_.out ?_
              refine pV_ 49 81 (bm 69 1125899906842623) HT_.out ?_
              refine pV_ 50 82 (bm 69 2251799813685247) HT_.out ?_
              refine pV_ 51 83 (bm 69 4503599627370495) HT_.out ?_
              refine pV_ 52 84 (bm 69 9007199254740991) HT_.out ?_
              refine take_ (i:=53) (N:=some 85) (v:=?_) (a':=?_) (bm 69 18014398509481983) rfl rfl (take_ofW HT_.out HW_.out (by kernel_rfl)) (fun _ _ _ h => h) (Or.inl ⟨by rfl,?_⟩) hHeld ?_ ?_
              rotate_left
              ·rintro w' ⟨s0,s1,s2,s3,s4,s5,s6,s7,s8,s9,s10,s11,s12,s13,s14,s15⟩
               go_simp
               with_reducible rfl
              rotate_left
              ·simp only [Act.put,setIfInBounds_toArray,set_cons_zero,set_cons_succ,i64_w,i32_w]
               rfl
              refine one_ (i:=54) (N:=some 86) (bm 69 36028797018963967) rfl rfl (one_of HT_.out (by kernel_rfl)) (by decide) (fun K hK => ?_)
              refine goes_ Tryd.func49 (by kernel_rfl) rfl #[.agg #[.int .i64 a0_10,.int .i64 a0_11,.int .i64 a0_12,.int .i64 a0_13,.int .i64 a0_14,.int .i64 a0_15]] (by rfl) rfl rfl mA ?_
              with_reducible refine (spec_AggOK.calls a0_10 a0_11 a0_12 a0_13 a0_14 a0_15 false _ A47.out).mono ?_
              rintro e w61 ⟨rfl,hb⟩
              refine ⟨_,rfl,?_⟩
              have n0_ := Aside0.mk (blk_below (g:=gb181) (o:=.cells #[.int .i64 a0_0,.int .i64 a0_1,.int .i64 a0_2,.int .i64 a0_3,.int .i64 a0_4,.int .i64 a0_5,.int .i64 a0_6,.int .i64 a0_7,.string a0_8,.slice A0_9 l0_9.length c0_9,.int .i64 a0_10,.int .i64 a0_11,.int .i64 a0_12,.int .i64 a0_13,.int .i64 a0_14,.int .i64 a0_15] 51 (0,0)) (kA BK181.out) hb)
              have n1_ := Aside0.mk (below_step bA hb)
              clear BK181
              clear HB
              have BK181 := n0_
              have HB := n1_
              clear n0_ n1_
              (try clear hb)
              (try clear hb2)
              (try clear hk)
              (try clear hi)
              refine hK.out _ _ ⟨(blk_cell BK181.out 0).trans rfl,(blk_cell BK181.out 1).trans rfl,(blk_cell BK181.out 2).trans rfl,(blk_cell BK181.out 3).trans rfl,(blk_cell BK181.out 4).trans rfl,(blk_cell BK181.out 5).trans rfl,(blk_cell BK181.out 6).trans rfl,(blk_cell BK181.out 7).trans rfl,(blk_cell BK181.out 8).trans rfl,(blk_cell BK181.out 9).trans rfl,(blk_cell BK181.out 10).trans rfl,(blk_cell BK181.out 11).trans rfl,(blk_cell BK181.out 12).trans rfl,(blk_cell BK181.out 13).trans rfl,(blk_cell BK181.out 14).trans rfl,(blk_cell BK181.out 15).trans rfl⟩ (fun hHeld => ?_)
              clear hK K
              refine norm_ (a':=?_) ?_ ?_
              rotate_left
              ·show Act.put _ (some 86) _ = _
               simp only [Act.put,setIfInBounds_toArray,set_cons_zero,set_cons_succ,i64_w,i32_w]
               rfl
              refine pV_ 55 87 (bm 69 72057594037927935) HT_.out ?_
              refine pV_ 56 88 (bm 69 144115188075855871) HT_.out ?_
              refine pU_ 57 89 (bm 69 288230376151711743) HT_.out ?_
              refine pU_ 58 90 (bm 69 576460752303423487) HT_.out ?_
              refine pU_ 59 91 (bm 69 1152921504606846975) HT_.out ?_
              refine pU_ 60 92 (bm 69 2305843009213693951) HT_.out ?_
              refine pV_ 61 93 (bm 69 4611686018427387903) HT_.out ?_
              refine pV_ 62 94 (bm 69 9223372036854775807) HT_.out ?_
              refine pU_ 63 95 (bm 69 18446744073709551615) HT_.out ?_
              refine pU_ 64 96 (bm 69 36893488147419103231) HT_.out ?_
              refine pU_ 65 97 (bm 69 73786976294838206463) HT_.out ?_
              refine pU_ 66 98 (bm 69 147573952589676412927) HT_.out ?_
              refine pV_ 67 99 (bm 69 295147905179352825855) HT_.out ?_
              refine pV_ 68 2 (bm 69 590295810358705651711) HT_.out ?_
              refine done_ (done_of HT_.out (by kernel_rfl)) ?_
              try go_wp2
              go_ret
              exact ⟨by first | rfl | (simp only [i64_w,i32_w] <;> rfl) | (simp [errW_none,errW_some] <;> rfl) | (simp [*,errW_none,errW_some] <;> rfl),bA⟩
            ·rw [if_neg c46] at H
             have c46b0 : (a0_3 == 4) = false := beq_eq_false_iff_ne.mpr c46
             have c46b1 : (a0_3 != 4) = true := bne_iff_ne.mpr c46
             obtain rfl := Option.some.inj H
             have hcz62_0 : wr.cell? ⟨gb181,0,none⟩ = some (.int .i64 a0_0) := (blk_cell BK181.out 0).trans rfl
             have hcz62_1 : wr.cell? ⟨gb181,1,none⟩ = some (.int .i64 a0_1) := (blk_cell BK181.out 1).trans rfl
             have hcz62_2 : wr.cell? ⟨gb181,2,none⟩ = some (.int .i64 a0_2) := (blk_cell BK181.out 2).trans rfl
             have hcz62_3 : wr.cell? ⟨gb181,3,none⟩ = some (.int .i64 a0_3) := (blk_cell BK181.out 3).trans rfl
             have hcz62_4 : wr.cell? ⟨gb181,4,none⟩ = some (.int .i64 a0_4) := (blk_cell BK181.out 4).trans rfl
             have hcz62_5 : wr.cell? ⟨gb181,5,none⟩ = some (.int .i64 a0_5) := (blk_cell BK181.out 5).trans rfl
             have hcz62_6 : wr.cell? ⟨gb181,6,none⟩ = some (.int .i64 a0_6) := (blk_cell BK181.out 6).trans rfl
             have hcz62_7 : wr.cell? ⟨gb181,7,none⟩ = some (.int .i64 a0_7) := (blk_cell BK181.out 7).trans rfl
             have hcz62_8 : wr.cell? ⟨gb181,8,none⟩ = some (.string a0_8) := (blk_cell BK181.out 8).trans rfl
             have hcz62_9 : wr.cell? ⟨gb181,9,none⟩ = some (.slice A0_9 l0_9.length c0_9) := (blk_cell BK181.out 9).trans rfl
             have hcz62_10 : wr.cell? ⟨gb181,10,none⟩ = some (.int .i64 a0_10) := (blk_cell BK181.out 10).trans rfl
             have hcz62_11 : wr.cell? ⟨gb181,11,none⟩ = some (.int .i64 a0_11) := (blk_cell BK181.out 11).trans rfl
             have hcz62_12 : wr.cell? ⟨gb181,12,none⟩ = some (.int .i64 a0_12) := (blk_cell BK181.out 12).trans rfl
             have hcz62_13 : wr.cell? ⟨gb181,13,none⟩ = some (.int .i64 a0_13) := (blk_cell BK181.out 13).trans rfl
             have hcz62_14 : wr.cell? ⟨gb181,14,none⟩ = some (.int .i64 a0_14) := (blk_cell BK181.out 14).trans rfl
             have hcz62_15 : wr.cell? ⟨gb181,15,none⟩ = some (.int .i64 a0_15) := (blk_cell BK181.out 15).trans rfl
             have hfz62_0 := blk_frozen BK181.out 0
             have hfz62_1 := blk_frozen BK181.out 1
             have hfz62_2 := blk_frozen BK181.out 2
             have hfz62_3 := blk_frozen BK181.out 3
             have hfz62_4 := blk_frozen BK181.out 4
             have hfz62_5 := blk_frozen BK181.out 5
             have hfz62_6 := blk_frozen BK181.out 6
             have hfz62_7 := blk_frozen BK181.out 7
             have hfz62_8 := blk_frozen BK181.out 8
             have hfz62_9 := blk_frozen BK181.out 9
             have hfz62_10 := blk_frozen BK181.out 10
             have hfz62_11 := blk_frozen BK181.out 11
             have hfz62_12 := blk_frozen BK181.out 12
             have hfz62_13 := blk_frozen BK181.out 13
             have hfz62_14 := blk_frozen BK181.out 14
             have hfz62_15 := blk_frozen BK181.out 15
             try go_wp2_with (first | ((with_reducible refine gate_callee (f:=46) rfl ?_); refine goesL_ (some 31) rfl rfl Tryd.func46 (by kernel_rfl) rfl #[.int .i64 a0_1,.int .i64 4,.int .i64 6] rfl mA ?_; (with_reducible refine (spec_l01In.calls a0_1 4 6 true _ A17.out).mono ?_); rintro e w' ⟨rfl,⟨nd,rfl⟩⟩; refine ⟨_,rfl,?_⟩))
             (try (rw [drewN_self wr]; generalize hq_ : World.drewN wr _ = wr; have n0_ : Aside0 (wr.heap[gb181]? = some (.cells #[.int .i64 a0_0,.int .i64 a0_1,.int .i64 a0_2,.int .i64 a0_3,.int .i64 a0_4,.int .i64 a0_5,.int .i64 a0_6,.int .i64 a0_7,.string a0_8,.slice A0_9 l0_9.length c0_9,.int .i64 a0_10,.int .i64 a0_11,.int .i64 a0_12,.int .i64 a0_13,.int .i64 a0_14,.int .i64 a0_15] 51 (0,0))) := ⟨by rw [← hq_]; exact (kA BK181.out)⟩; have n1_ : Aside0 (Below w.heap.size w wr) := ⟨by rw [← hq_]; exact bA⟩; clear BK181 HB hq_; have BK181 := n0_; have HB := n1_; clear n0_ n1_))
             have n0_ := Aside0.mk (blk_drew BK181.out)
             have n1_ := Aside0.mk (below_drew1 HB.out)
             clear BK181
             clear HB
             have BK181 := n0_
             have HB := n1_
             clear n0_ n1_
             refine start_ (n:=69) (S:=fun w' => w'.cell? ⟨gb181,0,none⟩ = some (.int .i64 a0_0) ∧ w'.cell? ⟨gb181,1,none⟩ = some (.int .i64 a0_1) ∧ w'.cell? ⟨gb181,2,none⟩ = some (.int .i64 a0_2) ∧ w'.cell? ⟨gb181,3,none⟩ = some (.int .i64 a0_3) ∧ w'.cell? ⟨gb181,4,none⟩ = some (.int .i64 a0_4) ∧ w'.cell? ⟨gb181,5,none⟩ = some (.int .i64 a0_5) ∧ w'.cell? ⟨gb181,6,none⟩ = some (.int .i64 a0_6) ∧ w'.cell? ⟨gb181,7,none⟩ = some (.int .i64 a0_7) ∧ w'.cell? ⟨gb181,8,none⟩ = some (.string a0_8) ∧ w'.cell? ⟨gb181,9,none⟩ = some (.slice A0_9 l0_9.length c0_9) ∧ w'.cell? ⟨gb181,10,none⟩ = some (.int .i64 a0_10) ∧ w'.cell? ⟨gb181,11,none⟩ = some (.int .i64 a0_11) ∧ w'.cell? ⟨gb181,12,none⟩ = some (.int .i64 a0_12) ∧ w'.cell? ⟨gb181,13,none⟩ = some (.int .i64 a0_13) ∧ w'.cell? ⟨gb181,14,none⟩ = some (.int .i64 a0_14) ∧ w'.cell? ⟨gb181,15,none⟩ = some (.int .i64 a0_15)) (ds := []) (bm 69 0) (by kernel_rfl) rfl rfl ⟨(blk_cell BK181.out 0).trans rfl,(blk_cell BK181.out 1).trans rfl,(blk_cell BK181.out 2).trans rfl,(blk_cell BK181.out 3).trans rfl,(blk_cell BK181.out 4).trans rfl,(blk_cell BK181.out 5).trans rfl,(blk_cell BK181.out 6).trans rfl,(blk_cell BK181.out 7).trans rfl,(blk_cell BK181.out 8).trans rfl,(blk_cell BK181.out 9).trans rfl,(blk_cell BK181.out 10).trans rfl,(blk_cell BK181.out 11).trans rfl,(blk_cell BK181.out 12).trans rfl,(blk_cell BK181.out 13).trans rfl,(blk_cell BK181.out 14).trans rfl,(blk_cell BK181.out 15).trans rfl⟩ (fun hHeld => ?_); refine with_tabW spec_WorkerOK.tab8 spec_WorkerOK.bits8 (fun HT_ HW_ => ?_)
             generalize wr.drew = w63 at BK181 HB hHeld ⊢
             refine pV_ 0 32 (bm 69 1) HT_.out ?_
             refine take_ (i:=1) (N:=some 33) (v:=?_) (a':=?_) (bm 69 3) rfl rfl (take_ofW HT_.out HW_.out (by kernel_rfl)) (fun _ _ _ h => h) (Or.inl ⟨by rfl,?_⟩) hHeld ?_ ?_
             rotate_left
             ·rintro w' ⟨s0,s1,s2,s3,s4,s5,s6,s7,s8,s9,s10,s11,s12,s13,s14,s15⟩
              go_simp
              with_reducible rfl
             rotate_left
             ·simp only [Act.put,setIfInBounds_toArray,set_cons_zero,set_cons_succ,i64_w,i32_w]
              rfl
             refine one_ (i:=2) (N:=some 34) (bm 69 7) rfl rfl (one_of HT_.out (by kernel_rfl)) (by decide) (fun K hK => ?_)
             refine goes_ Tryd.func46 (by kernel_rfl) rfl #[.int .i64 a0_0,.int .i64 0,.int .i64 9] (by rfl) rfl rfl mA ?_
             with_reducible refine (spec_l01In.calls a0_0 0 9 true _ A18.out).mono ?_
             rintro e w' ⟨rfl,⟨nd,rfl⟩⟩
             refine ⟨_,rfl,?_⟩
             refine hK.out _ _ ⟨(blk_cell BK181.out 0).trans rfl,(blk_cell BK181.out 1).trans rfl,(blk_cell BK181.out 2).trans rfl,(blk_cell BK181.out 3).trans rfl,(blk_cell BK181.out 4).trans rfl,(blk_cell BK181.out 5).trans rfl,(blk_cell BK181.out 6).trans rfl,(blk_cell BK181.out 7).trans rfl,(blk_cell BK181.out 8).trans rfl,(blk_cell BK181.out 9).trans rfl,(blk_cell BK181.out 10).trans rfl,(blk_cell BK181.out 11).trans rfl,(blk_cell BK181.out 12).trans rfl,(blk_cell BK181.out 13).trans rfl,(blk_cell BK181.out 14).trans rfl,(blk_cell BK181.out 15).trans rfl⟩ (fun hHeld => ?_)
             clear hK K
             refine norm_ (a':=?_) ?_ ?_
             rotate_left
             ·show Act.put _ (some 34) _ = _
              simp only [Act.put,setIfInBounds_toArray,set_cons_zero,set_cons_succ,i64_w,i32_w]
              rfl
             refine pV_ 3 35 (bm 69 15) HT_.out ?_
             refine pV_ 4 36 (bm 69 31) HT_.out ?_
             refine take_ (i:=5) (N:=some 37) (v:=?_) (a':=?_) (bm 69 63) rfl rfl (take_ofW HT_.out HW_.out (by kernel_rfl)) (fun _ _ _ h => h) (Or.inl ⟨by rfl,?_⟩) hHeld ?_ ?_
             rotate_left
             ·rintro w' ⟨s0,s1,s2,s3,s4,s5,s6,s7,s8,s9,s10,s11,s12,s13,s14,s15⟩
              go_simp
              with_reducible rfl
             rotate_left
             ·simp only [Act.put,setIfInBounds_toArray,set_cons_zero,set_cons_succ,i64_w,i32_w]
              rfl
             refine one_ (i:=6) (N:=some 38) (bm 69 127) rfl rfl (one_of HT_.out (by kernel_rfl)) (by decide) (fun K hK => ?_)
             refine goes_ Tryd.func46 (by kernel_rfl) rfl #[.int .i64 a0_1,.int .i64 0,.int .i64 7] (by rfl) rfl rfl mA ?_
             with_reducible refine (spec_l01In.calls a0_1 0 7 true _ A20.out).mono ?_
             rintro e w' ⟨rfl,⟨nd,rfl⟩⟩
             refine ⟨_,rfl,?_⟩
             refine hK.out _ _ ⟨(blk_cell BK181.out 0).trans rfl,(blk_cell BK181.out 1).trans rfl,(blk_cell BK181.out 2).trans rfl,(blk_cell BK181.out 3).trans rfl,(blk_cell BK181.out 4).trans rfl,(blk_cell BK181.out 5).trans rfl,(blk_cell BK181.out 6).trans rfl,(blk_cell BK181.out 7).trans rfl,(blk_cell BK181.out 8).trans rfl,(blk_cell BK181.out 9).trans rfl,(blk_cell BK181.out 10).trans rfl,(blk_cell BK181.out 11).trans rfl,(blk_cell BK181.out 12).trans rfl,(blk_cell BK181.out 13).trans rfl,(blk_cell BK181.out 14).trans rfl,(blk_cell BK181.out 15).trans rfl⟩ (fun hHeld => ?_)
             clear hK K
             refine norm_ (a':=?_) ?_ ?_
             rotate_left
             ·show Act.put _ (some 38) _ = _
              simp only [Act.put,setIfInBounds_toArray,set_cons_zero,set_cons_succ,i64_w,i32_w]
              rfl
             refine pV_ 7 39 (bm 69 255) HT_.out ?_
             refine pV_ 8 40 (bm 69 511) HT_.out ?_
             refine pV_ 9 41 (bm 69 1023) HT_.out ?_
             refine pV_ 11 43 (bm 69 3071) HT_.out ?_
             refine take_ (i:=10) (N:=some 42) (v:=?_) (a':=?_) (bm 69 4095) rfl rfl (take_ofW HT_.out HW_.out (by kernel_rfl)) (fun _ _ _ h => h) (Or.inl ⟨by rfl,?_⟩) hHeld ?_ ?_
             rotate_left
             ·rintro w' ⟨s0,s1,s2,s3,s4,s5,s6,s7,s8,s9,s10,s11,s12,s13,s14,s15⟩
              go_simp
              with_reducible rfl
             rotate_left
             ·simp only [Act.put,setIfInBounds_toArray,set_cons_zero,set_cons_succ,i64_w,i32_w]
              rfl
             refine take_ (i:=12) (N:=some 44) (v:=?_) (a':=?_) (bm 69 8191) rfl rfl (take_ofW HT_.out HW_.out (by kernel_rfl)) (fun _ _ _ h => h) (Or.inl ⟨by rfl,?_⟩) hHeld ?_ ?_
             rotate_left
             ·rintro w' ⟨s0,s1,s2,s3,s4,s5,s6,s7,s8,s9,s10,s11,s12,s13,s14,s15⟩
              go_simp
              with_reducible rfl
             rotate_left
             ·simp only [Act.put,setIfInBounds_toArray,set_cons_zero,set_cons_succ,i64_w,i32_w]
              rfl
             refine pV_ 13 45 (bm 69 16383) HT_.out ?_
             refine one_ (i:=14) (N:=some 46) (bm 69 32767) rfl rfl (one_of HT_.out (by kernel_rfl)) (by decide) (fun K hK => ?_)
             refine goes_ Tryd.func47 (by kernel_rfl) rfl #[.bool (decide (a0_1 > 1))] (by rfl) rfl rfl mA ?_
             with_reducible refine (spec_l01Bit.calls (decide (a0_1 > 1)) t188 _ A22.out).mono ?_
             rintro e w' ⟨rfl,⟨nd,rfl⟩⟩
             refine ⟨_,rfl,?_⟩
             refine hK.out _ _ ⟨(blk_cell BK181.out 0).trans rfl,(blk_cell BK181.out 1).trans rfl,(blk_cell BK181.out 2).trans rfl,(blk_cell BK181.out 3).trans rfl,(blk_cell BK181.out 4).trans rfl,(blk_cell BK181.out 5).trans rfl,(blk_cell BK181.out 6).trans rfl,(blk_cell BK181.out 7).trans rfl,(blk_cell BK181.out 8).trans rfl,(blk_cell BK181.out 9).trans rfl,(blk_cell BK181.out 10).trans rfl,(blk_cell BK181.out 11).trans rfl,(blk_cell BK181.out 12).trans rfl,(blk_cell BK181.out 13).trans rfl,(blk_cell BK181.out 14).trans rfl,(blk_cell BK181.out 15).trans rfl⟩ (fun hHeld => ?_)
             clear hK K
             refine norm_ (a':=?_) ?_ ?_
             rotate_left
             ·show Act.put _ (some 46) _ = _
              simp only [Act.put,setIfInBounds_toArray,set_cons_zero,set_cons_succ,i64_w,i32_w]
              rfl
             refine one_ (i:=15) (N:=some 47) (bm 69 65535) rfl rfl (one_of HT_.out (by kernel_rfl)) (by decide) (fun K hK => ?_)
             refine goes_ Tryd.func46 (by kernel_rfl) rfl #[.int .i64 a0_2,.int .i64 t188,.int .i64 999999] (by rfl) rfl rfl mA ?_
             with_reducible refine (spec_l01In.calls a0_2 t188 999999 true _ A23.out).mono ?_
             rintro e w' ⟨rfl,⟨nd,rfl⟩⟩
             refine ⟨_,rfl,?_⟩
             refine hK.out _ _ ⟨(blk_cell BK181.out 0).trans rfl,(blk_cell BK181.out 1).trans rfl,(blk_cell BK181.out 2).trans rfl,(blk_cell BK181.out 3).trans rfl,(blk_cell BK181.out 4).trans rfl,(blk_cell BK181.out 5).trans rfl,(blk_cell BK181.out 6).trans rfl,(blk_cell BK181.out 7).trans rfl,(blk_cell BK181.out 8).trans rfl,(blk_cell BK181.out 9).trans rfl,(blk_cell BK181.out 10).trans rfl,(blk_cell BK181.out 11).trans rfl,(blk_cell BK181.out 12).trans rfl,(blk_cell BK181.out 13).trans rfl,(blk_cell BK181.out 14).trans rfl,(blk_cell BK181.out 15).trans rfl⟩ (fun hHeld => ?_)
             clear hK K
             refine norm_ (a':=?_) ?_ ?_
             rotate_left
             ·show Act.put _ (some 47) _ = _
              simp only [Act.put,setIfInBounds_toArray,set_cons_zero,set_cons_succ,i64_w,i32_w]
              rfl
             refine pV_ 16 48 (bm 69 131071) HT_.out ?_
             refine pV_ 17 49 (bm 69 262143) HT_.out ?_
             refine pV_ 18 50 (bm 69 524287) HT_.out ?_
             refine pV_ 19 51 (bm 69 1048575) HT_.out ?_
             refine pV_ 20 52 (bm 69 2097151) HT_.out ?_
             refine pV_ 21 53 (bm 69 4194303) HT_.out ?_
             refine take_ (i:=22) (N:=some 54) (v:=?_) (a':=?_) (bm 69 8388607) rfl rfl (take_ofW HT_.out HW_.out (by kernel_rfl)) (fun _ _ _ h => h) (Or.inl ⟨by rfl,?_⟩) hHeld ?_ ?_
             rotate_left
             ·rintro w' ⟨s0,s1,s2,s3,s4,s5,s6,s7,s8,s9,s10,s11,s12,s13,s14,s15⟩
              go_simp
              with_reducible rfl
             rotate_left
             ·simp only [Act.put,setIfInBounds_toArray,set_cons_zero,set_cons_succ,i64_w,i32_w]
              rfl
             refine one_ (i:=23) (N:=some 55) (bm 69 16777215) rfl rfl (one_of HT_.out (by kernel_rfl)) (by decide) (fun K hK => ?_)
             refine goes_ Tryd.func48 (by kernel_rfl) rfl #[.agg #[.int .i64 a0_3,.int .i64 a0_4,.int .i64 a0_5,.int .i64 a0_6,.int .i64 a0_7,.string a0_8]] (by rfl) rfl rfl mA ?_
             with_reducible refine (spec_RecordOK.calls k1 a0_3 a0_4 a0_5 a0_6 a0_7 a0_8 true _ A26.out).mono ?_
             rintro e w64 ⟨rfl,hb⟩
             refine ⟨_,rfl,?_⟩
             have n0_ := Aside0.mk (blk_below (g:=gb181) (o:=.cells #[.int .i64 a0_0,.int .i64 a0_1,.int .i64 a0_2,.int .i64 a0_3,.int .i64 a0_4,.int .i64 a0_5,.int .i64 a0_6,.int .i64 a0_7,.string a0_8,.slice A0_9 l0_9.length c0_9,.int .i64 a0_10,.int .i64 a0_11,.int .i64 a0_12,.int .i64 a0_13,.int .i64 a0_14,.int .i64 a0_15] 51 (0,0)) (kA BK181.out) hb)
             have n1_ := Aside0.mk (below_step bA hb)
             clear BK181
             clear HB
             have BK181 := n0_
             have HB := n1_
             clear n0_ n1_
             (try clear hb)
             (try clear hb2)
             (try clear hk)
             (try clear hi)
             refine hK.out _ _ ⟨(blk_cell BK181.out 0).trans rfl,(blk_cell BK181.out 1).trans rfl,(blk_cell BK181.out 2).trans rfl,(blk_cell BK181.out 3).trans rfl,(blk_cell BK181.out 4).trans rfl,(blk_cell BK181.out 5).trans rfl,(blk_cell BK181.out 6).trans rfl,(blk_cell BK181.out 7).trans rfl,(blk_cell BK181.out 8).trans rfl,(blk_cell BK181.out 9).trans rfl,(blk_cell BK181.out 10).trans rfl,(blk_cell BK181.out 11).trans rfl,(blk_cell BK181.out 12).trans rfl,(blk_cell BK181.out 13).trans rfl,(blk_cell BK181.out 14).trans rfl,(blk_cell BK181.out 15).trans rfl⟩ (fun hHeld => ?_)
             clear hK K
             refine norm_ (a':=?_) ?_ ?_
             rotate_left
             ·show Act.put _ (some 55) _ = _
              simp only [Act.put,setIfInBounds_toArray,set_cons_zero,set_cons_succ,i64_w,i32_w]
              rfl
             refine pV_ 24 56 (bm 69 33554431) HT_.out ?_
             refine pV_ 25 57 (bm 69 67108863) HT_.out ?_
             refine pV_ 26 58 (bm 69 134217727) HT_.out ?_
             refine pV_ 28 60 (bm 69 402653183) HT_.out ?_
             refine take_ (i:=27) (N:=some 59) (v:=?_) (a':=?_) (bm 69 536870911) rfl rfl (take_ofW HT_.out HW_.out (by kernel_rfl)) (fun _ _ _ h => h) (Or.inl ⟨by rfl,?_⟩) hHeld ?_ ?_
             rotate_left
             ·rintro w' ⟨s0,s1,s2,s3,s4,s5,s6,s7,s8,s9,s10,s11,s12,s13,s14,s15⟩
              go_simp
              with_reducible rfl
             rotate_left
             ·simp only [Act.put,setIfInBounds_toArray,set_cons_zero,set_cons_succ,i64_w,i32_w]
              rfl
             refine take_ (i:=29) (N:=some 61) (v:=?_) (a':=?_) (bm 69 1073741823) rfl rfl (take_ofW HT_.out HW_.out (by kernel_rfl)) (fun _ _ _ h => h) (Or.inl ⟨by rfl,?_⟩) hHeld ?_ ?_
             rotate_left
             ·rintro w' ⟨s0,s1,s2,s3,s4,s5,s6,s7,s8,s9,s10,s11,s12,s13,s14,s15⟩
              go_simp
              with_reducible rfl
             rotate_left
             ·simp only [Act.put,setIfInBounds_toArray,set_cons_zero,set_cons_succ,i64_w,i32_w]
              rfl
             refine pV_ 30 62 (bm 69 2147483647) HT_.out ?_
             refine pV_ 31 63 (bm 69 4294967295) HT_.out ?_
             refine pV_ 32 64 (bm 69 8589934591) HT_.out ?_
             refine pV_ 33 65 (bm 69 17179869183) HT_.out ?_
             refine pV_ 34 66 (bm 69 34359738367) HT_.out ?_
             refine take_ (i:=35) (N:=some 67) (v:=?_) (a':=?_) (bm 69 68719476735) rfl rfl (take_ofW HT_.out HW_.out (by kernel_rfl)) (fun _ _ _ h => h) (Or.inl ⟨by rfl,?_⟩) hHeld ?_ ?_
             rotate_left
             ·rintro w' ⟨s0,s1,s2,s3,s4,s5,s6,s7,s8,s9,s10,s11,s12,s13,s14,s15⟩
              go_simp
              with_reducible rfl
             rotate_left
             ·simp only [Act.put,setIfInBounds_toArray,set_cons_zero,set_cons_succ,i64_w,i32_w]
              rfl
             refine pV_ 36 68 (bm 69 137438953471) HT_.out ?_
             refine pV_ 37 69 (bm 69 274877906943) HT_.out ?_
             refine pV_ 38 70 (bm 69 549755813887) HT_.out ?_
             refine take_ (i:=39) (N:=some 71) (v:=?_) (a':=?_) (bm 69 1099511627775) rfl rfl (take_ofW HT_.out HW_.out (by kernel_rfl)) (fun _ _ _ h => h) (Or.inl ⟨by rfl,?_⟩) hHeld ?_ ?_
             rotate_left
             ·rintro w' ⟨s0,s1,s2,s3,s4,s5,s6,s7,s8,s9,s10,s11,s12,s13,s14,s15⟩
              go_simp
              with_reducible rfl
             rotate_left
             ·simp only [Act.put,setIfInBounds_toArray,set_cons_zero,set_cons_succ,i64_w,i32_w]
              rfl
             refine pV_ 40 72 (bm 69 2199023255551) HT_.out ?_
             refine pV_ 41 73 (bm 69 4398046511103) HT_.out ?_
             refine pV_ 42 74 (bm 69 8796093022207) HT_.out ?_
             refine pV_ 43 75 (bm 69 17592186044415) HT_.out ?_
             refine take_ (i:=44) (N:=some 76) (v:=?_) (a':=?_) (bm 69 35184372088831) rfl rfl (take_ofW HT_.out HW_.out (by kernel_rfl)) (fun _ _ _ h => h) (Or.inl ⟨by rfl,?_⟩) hHeld ?_ ?_
             rotate_left
             ·rintro w' ⟨s0,s1,s2,s3,s4,s5,s6,s7,s8,s9,s10,s11,s12,s13,s14,s15⟩
              go_simp
              with_reducible rfl
             rotate_left
             ·simp only [Act.put,setIfInBounds_toArray,set_cons_zero,set_cons_succ,i64_w,i32_w]
              rfl
             refine pV_ 45 77 (bm 69 70368744177663) HT_.out ?_
             refine pV_ 46 78 (bm 69 140737488355327) HT_.out ?_
             refine pV_ 47 79 (bm 69 281474976710655) HT_.out ?_
             refine pV_ 48 80 (bm 69 562949953421311) HT_.out ?_
             refine pV_ 49 81 (bm 69 1125899906842623) HT_.out ?_
             refine pV_ 50 82 (bm 69 2251799813685247) HT_.out ?_
             refine pV_ 51 83 (bm 69 4503599627370495) HT_.out ?_
             refine pU_ 52 84 (bm 69 9007199254740991) HT_.out ?_
             refine pU_ 53 85 (bm 69 18014398509481983) HT_.out ?_
             refine pU_ 54 86 (bm 69 36028797018963967) HT_.out ?_
             refine pV_ 55 87 (bm 69 72057594037927935) HT_.out ?_
             refine pV_ 56 88 (bm 69 144115188075855871) HT_.out ?_
             refine pU_ 57 89 (bm 69 288230376151711743) HT_.out ?_
             refine pU_ 58 90 (bm 69 576460752303423487) HT_.out ?_
             refine pU_ 59 91 (bm 69 1152921504606846975) HT_.out ?_
             refine pU_ 60 92 (bm 69 2305843009213693951) HT_.out ?_
             refine pV_ 61 93 (bm 69 4611686018427387903) HT_.out ?_
             refine pV_ 62 94 (bm 69 9223372036854775807) HT_.out ?_
             refine pU_ 63 95 (bm 69 18446744073709551615) HT_.out ?_
             refine pU_ 64 96 (bm 69 36893488147419103231) HT_.out ?_
             refine pU_ 65 97 (bm 69 73786976294838206463) HT_.out ?_
             refine pU_ 66 98 (bm 69 147573952589676412927) HT_.out ?_
             refine pV_ 67 99 (bm 69 295147905179352825855) HT_.out ?_
             refine pV_ 68 2 (bm 69 590295810358705651711) HT_.out ?_
             refine done_ (done_of HT_.out (by kernel_rfl)) ?_
             try go_wp2
             go_ret
             exact ⟨by first | rfl | (simp only [i64_w,i32_w] <;> rfl) | (simp [errW_none,errW_some] <;> rfl) | (simp [*,errW_none,errW_some] <;> rfl),bA⟩
           ·rw [if_neg c45] at H
            have c45b0 : (a0_1 == 6) = false := beq_eq_false_iff_ne.mpr c45
            have c45b1 : (a0_1 != 6) = true := bne_iff_ne.mpr c45
            obtain rfl := Option.some.inj H
            have hcz65_0 : wr.cell? ⟨gb181,0,none⟩ = some (.int .i64 a0_0) := (blk_cell BK181.out 0).trans rfl
            have hcz65_1 : wr.cell? ⟨gb181,1,none⟩ = some (.int .i64 a0_1) := (blk_cell BK181.out 1).trans rfl
            have hcz65_2 : wr.cell? ⟨gb181,2,none⟩ = some (.int .i64 a0_2) := (blk_cell BK181.out 2).trans rfl
            have hcz65_3 : wr.cell? ⟨gb181,3,none⟩ = some (.int .i64 a0_3) := (blk_cell BK181.out 3).trans rfl
            have hcz65_4 : wr.cell? ⟨gb181,4,none⟩ = some (.int .i64 a0_4) := (blk_cell BK181.out 4).trans rfl
            have hcz65_5 : wr.cell? ⟨gb181,5,none⟩ = some (.int .i64 a0_5) := (blk_cell BK181.out 5).trans rfl
            have hcz65_6 : wr.cell? ⟨gb181,6,none⟩ = some (.int .i64 a0_6) := (blk_cell BK181.out 6).trans rfl
            have hcz65_7 : wr.cell? ⟨gb181,7,none⟩ = some (.int .i64 a0_7) := (blk_cell BK181.out 7).trans rfl
            have hcz65_8 : wr.cell? ⟨gb181,8,none⟩ = some (.string a0_8) := (blk_cell BK181.out 8).trans rfl
            have hcz65_9 : wr.cell? ⟨gb181,9,none⟩ = some (.slice A0_9 l0_9.length c0_9) := (blk_cell BK181.out 9).trans rfl
            have hcz65_10 : wr.cell? ⟨gb181,10,none⟩ = some (.int .i64 a0_10) := (blk_cell BK181.out 10).trans rfl
            have hcz65_11 : wr.cell? ⟨gb181,11,none⟩ = some (.int .i64 a0_11) := (blk_cell BK181.out 11).trans rfl
            have hcz65_12 : wr.cell? ⟨gb181,12,none⟩ = some (.int .i64 a0_12) := (blk_cell BK181.out 12).trans rfl
            have hcz65_13 : wr.cell? ⟨gb181,13,none⟩ = some (.int .i64 a0_13) := (blk_cell BK181.out 13).trans rfl
            have hcz65_14 : wr.cell? ⟨gb181,14,none⟩ = some (.int .i64 a0_14) := (blk_cell BK181.out 14).trans rfl
            have hcz65_15 : wr.cell? ⟨gb181,15,none⟩ = some (.int .i64 a0_15) := (blk_cell BK181.out 15).trans rfl
            have hfz65_0 := blk_frozen BK181.out 0
            have hfz65_1 := blk_frozen BK181.out 1
            have hfz65_2 := blk_frozen BK181.out 2
            have hfz65_3 := blk_frozen BK181.out 3
            have hfz65_4 := blk_frozen BK181.out 4
            have hfz65_5 := blk_frozen BK181.out 5
            have hfz65_6 := blk_frozen BK181.out 6
            have hfz65_7 := blk_frozen BK181.out 7
            have hfz65_8 := blk_frozen BK181.out 8
            have hfz65_9 := blk_frozen BK181.out 9
            have hfz65_10 := blk_frozen BK181.out 10
            have hfz65_11 := blk_frozen BK181.out 11
            have hfz65_12 := blk_frozen BK181.out 12
            have hfz65_13 := blk_frozen BK181.out 13
            have hfz65_14 := blk_frozen BK181.out 14
            have hfz65_15 := blk_frozen BK181.out 15
            try go_wp2_with (first | ((with_reducible refine gate_callee (f:=46) rfl ?_); refine goesL_ (some 31) rfl rfl Tryd.func46 (by kernel_rfl) rfl #[.int .i64 a0_1,.int .i64 4,.int .i64 6] rfl mA ?_; (with_reducible refine (spec_l01In.calls a0_1 4 6 true _ A17.out).mono ?_); rintro e w' ⟨rfl,⟨nd,rfl⟩⟩; refine ⟨_,rfl,?_⟩))
            (try (rw [drewN_self wr]; generalize hq_ : World.drewN wr _ = wr; have n0_ : Aside0 (wr.heap[gb181]? = some (.cells #[.int .i64 a0_0,.int .i64 a0_1,.int .i64 a0_2,.int .i64 a0_3,.int .i64 a0_4,.int .i64 a0_5,.int .i64 a0_6,.int .i64 a0_7,.string a0_8,.slice A0_9 l0_9.length c0_9,.int .i64 a0_10,.int .i64 a0_11,.int .i64 a0_12,.int .i64 a0_13,.int .i64 a0_14,.int .i64 a0_15] 51 (0,0))) := ⟨by rw [← hq_]; exact (kA BK181.out)⟩; have n1_ : Aside0 (Below w.heap.size w wr) := ⟨by rw [← hq_]; exact bA⟩; clear BK181 HB hq_; have BK181 := n0_; have HB := n1_; clear n0_ n1_))
            have n0_ := Aside0.mk (blk_drew BK181.out)
            have n1_ := Aside0.mk (below_drew1 HB.out)
            clear BK181
            clear HB
            have BK181 := n0_
            have HB := n1_
            clear n0_ n1_
            refine start_ (n:=69) (S:=fun w' => w'.cell? ⟨gb181,0,none⟩ = some (.int .i64 a0_0) ∧ w'.cell? ⟨gb181,1,none⟩ = some (.int .i64 a0_1) ∧ w'.cell? ⟨gb181,2,none⟩ = some (.int .i64 a0_2) ∧ w'.cell? ⟨gb181,3,none⟩ = some (.int .i64 a0_3) ∧ w'.cell? ⟨gb181,4,none⟩ = some (.int .i64 a0_4) ∧ w'.cell? ⟨gb181,5,none⟩ = some (.int .i64 a0_5) ∧ w'.cell? ⟨gb181,6,none⟩ = some (.int .i64 a0_6) ∧ w'.cell? ⟨gb181,7,none⟩ = some (.int .i64 a0_7) ∧ w'.cell? ⟨gb181,8,none⟩ = some (.string a0_8) ∧ w'.cell? ⟨gb181,9,none⟩ = some (.slice A0_9 l0_9.length c0_9) ∧ w'.cell? ⟨gb181,10,none⟩ = some (.int .i64 a0_10) ∧ w'.cell? ⟨gb181,11,none⟩ = some (.int .i64 a0_11) ∧ w'.cell? ⟨gb181,12,none⟩ = some (.int .i64 a0_12) ∧ w'.cell? ⟨gb181,13,none⟩ = some (.int .i64 a0_13) ∧ w'.cell? ⟨gb181,14,none⟩ = some (.int .i64 a0_14) ∧ w'.cell? ⟨gb181,15,none⟩ = some (.int .i64 a0_15)) (ds := []) (bm 69 0) (by kernel_rfl) rfl rfl ⟨(blk_cell BK181.out 0).trans rfl,(blk_cell BK181.out 1).trans rfl,(blk_cell BK181.out 2).trans rfl,(blk_cell BK181.out 3).trans rfl,(blk_cell BK181.out 4).trans rfl,(blk_cell BK181.out 5).trans rfl,(blk_cell BK181.out 6).trans rfl,(blk_cell BK181.out 7).trans rfl,(blk_cell BK181.out 8).trans rfl,(blk_cell BK181.out 9).trans rfl,(blk_cell BK181.out 10).trans rfl,(blk_cell BK181.out 11).trans rfl,(blk_cell BK181.out 12).trans rfl,(blk_cell BK181.out 13).trans rfl,(blk_cell BK181.out 14).trans rfl,(blk_cell BK181.out 15).trans rfl⟩ (fun hHeld => ?_); refine with_tabW spec_WorkerOK.tab8 spec_WorkerOK.bits8 (fun HT_ HW_ => ?_)
            generalize wr.drew = w66 at BK181 HB hHeld ⊢
            refine pV_ 0 32 (bm 69 1) HT_.out ?_
            refine take_ (i:=1) (N:=some 33) (v:=?_) (a':=?_) (bm 69 3) rfl rfl (take_ofW HT_.out HW_.out (by kernel_rfl)) (fun _ _ _ h => h) (Or.inl ⟨by rfl,?_⟩) hHeld ?_ ?_
            rotate_left
            ·rintro w' ⟨s0,s1,s2,s3,s4,s5,s6,s7,s8,s9,s10,s11,s12,s13,s14,s15⟩
             go_simp
             with_reducible rfl
            rotate_left
            ·simp only [Act.put,setIfInBounds_toArray,set_cons_zero,set_cons_succ,i64_w,i32_w]
             rfl
            refine one_ (i:=2) (N:=some 34) (bm 69 7) rfl rfl (one_of HT_.out (by kernel_rfl)) (by decide) (fun K hK => ?_)
            refine goes_ Tryd.func46 (by kernel_rfl) rfl #[.int .i64 a0_0,.int .i64 0,.int .i64 9] (by rfl) rfl rfl mA ?_
            with_reducible refine (spec_l01In.calls a0_0 0 9 true _ A18.out).mono ?_
            rintro e w' ⟨rfl,⟨nd,rfl⟩⟩
            refine ⟨_,rfl,?_⟩
            refine hK.out _ _ ⟨(blk_cell BK181.out 0).trans rfl,(blk_cell BK181.out 1).trans rfl,(blk_cell BK181.out 2).trans rfl,(blk_cell BK181.out 3).trans rfl,(blk_cell BK181.out 4).trans rfl,(blk_cell BK181.out 5).trans rfl,(blk_cell BK181.out 6).trans rfl,(blk_cell BK181.out 7).trans rfl,(blk_cell BK181.out 8).trans rfl,(blk_cell BK181.out 9).trans rfl,(blk_cell BK181.out 10).trans rfl,(blk_cell BK181.out 11).trans rfl,(blk_cell BK181.out 12).trans rfl,(blk_cell BK181.out 13).trans rfl,(blk_cell BK181.out 14).trans rfl,(blk_cell BK181.out 15).trans rfl⟩ (fun hHeld => ?_)
            clear hK K
            refine norm_ (a':=?_) ?_ ?_
            rotate_left
            ·show Act.put _ (some 34) _ = _
             simp only [Act.put,setIfInBounds_toArray,set_cons_zero,set_cons_succ,i64_w,i32_w]
             rfl
            refine pV_ 3 35 (bm 69 15) HT_.out ?_
            refine pV_ 4 36 (bm 69 31) HT_.out ?_
            refine take_ (i:=5) (N:=some 37) (v:=?_) (a':=?_) (bm 69 63) rfl rfl (take_ofW HT_.out HW_.out (by kernel_rfl)) (fun _ _ _ h => h) (Or.inl ⟨by rfl,?_⟩) hHeld ?_ ?_
            rotate_left
            ·rintro w' ⟨s0,s1,s2,s3,s4,s5,s6,s7,s8,s9,s10,s11,s12,s13,s14,s15⟩
             go_simp
             with_reducible rfl
            rotate_left
            ·simp only [Act.put,setIfInBounds_toArray,set_cons_zero,set_cons_succ,i64_w,i32_w]
             rfl
            refine one_ (i:=6) (N:=some 38) (bm 69 127) rfl rfl (one_of HT_.out (by kernel_rfl)) (by decide) (fun K hK => ?_)
            refine goes_ Tryd.func46 (by kernel_rfl) rfl #[.int .i64 a0_1,.int .i64 0,.int .i64 7] (by rfl) rfl rfl mA ?_
            with_reducible refine (spec_l01In.calls a0_1 0 7 true _ A20.out).mono ?_
            rintro e w' ⟨rfl,⟨nd,rfl⟩⟩
            refine ⟨_,rfl,?_⟩
            refine hK.out _ _ ⟨(blk_cell BK181.out 0).trans rfl,(blk_cell BK181.out 1).trans rfl,(blk_cell BK181.out 2).trans rfl,(blk_cell BK181.out 3).trans rfl,(blk_cell BK181.out 4).trans rfl,(blk_cell BK181.out 5).trans rfl,(blk_cell BK181.out 6).trans rfl,(blk_cell BK181.out 7).trans rfl,(blk_cell BK181.out 8).trans rfl,(blk_cell BK181.out 9).trans rfl,(blk_cell BK181.out 10).trans rfl,(blk_cell BK181.out 11).trans rfl,(blk_cell BK181.out 12).trans rfl,(blk_cell BK181.out 13).trans rfl,(blk_cell BK181.out 14).trans rfl,(blk_cell BK181.out 15).trans rfl⟩ (fun hHeld => ?_)
            clear hK K
            refine norm_ (a':=?_) ?_ ?_
            rotate_left
            ·show Act.put _ (some 38) _ = _
             simp only [Act.put,setIfInBounds_toArray,set_cons_zero,set_cons_succ,i64_w,i32_w]
             rfl
            refine pV_ 7 39 (bm 69 255) HT_.out ?_
            refine pV_ 8 40 (bm 69 511) HT_.out ?_
            refine pV_ 9 41 (bm 69 1023) HT_.out ?_
            refine pV_ 11 43 (bm 69 3071) HT_.out ?_
            refine take_ (i:=10) (N:=some 42) (v:=?_) (a':=?_) (bm 69 4095) rfl rfl (take_ofW HT_.out HW_.out (by kernel_rfl)) (fun _ _ _ h => h) (Or.inl ⟨by rfl,?_⟩) hHeld ?_ ?_
            rotate_left
            ·rintro w' ⟨s0,s1,s2,s3,s4,s5,s6,s7,s8,s9,s10,s11,s12,s13,s14,s15⟩
             go_simp
             with_reducible rfl
            rotate_left
            ·simp only [Act.put,setIfInBounds_toArray,set_cons_zero,set_cons_succ,i64_w,i32_w]
             rfl
            refine take_ (i:=12) (N:=some 44) (v:=?_) (a':=?_) (bm 69 8191) rfl rfl (take_ofW HT_.out HW_.out (by kernel_rfl)) (fun _ _ _ h => h) (Or.inl ⟨by rfl,?_⟩) hHeld ?_ ?_
            rotate_left
            ·rintro w' ⟨s0,s1,s2,s3,s4,s5,s6,s7,s8,s9,s10,s11,s12,s13,s14,s15⟩
             go_simp
             with_reducible rfl
            rotate_left
            ·simp only [Act.put,setIfInBounds_toArray,set_cons_zero,set_cons_succ,i64_w,i32_w]
             rfl
            refine pV_ 13 45 (bm 69 16383) HT_.out ?_
            refine one_ (i:=14) (N:=some 46) (bm 69 32767) rfl rfl (one_of HT_.out (by kernel_rfl)) (by decide) (fun K hK => ?_)
            refine goes_ Tryd.func47 (by kernel_rfl) rfl #[.bool (decide (a0_1 > 1))] (by rfl) rfl rfl mA ?_
            with_reducible refine (spec_l01Bit.calls (decide (a0_1 > 1)) t188 _ A22.out).mono ?_
            rintro e w' ⟨rfl,⟨nd,rfl⟩⟩
            refine ⟨_,rfl,?_⟩
            refine hK.out _ _ ⟨(blk_cell BK181.out 0).trans rfl,(blk_cell BK181.out 1).trans rfl,(blk_cell BK181.out 2).trans rfl,(blk_cell BK181.out 3).trans rfl,(blk_cell BK181.out 4).trans rfl,(blk_cell BK181.out 5).trans rfl,(blk_cell BK181.out 6).trans rfl,(blk_cell BK181.out 7).trans rfl,(blk_cell BK181.out 8).trans rfl,(blk_cell BK181.out 9).trans rfl,(blk_cell BK181.out 10).trans rfl,(blk_cell BK181.out 11).trans rfl,(blk_cell BK181.out 12).trans rfl,(blk_cell BK181.out 13).trans rfl,(blk_cell BK181.out 14).trans rfl,(blk_cell BK181.out 15).trans rfl⟩ (fun hHeld => ?_)
            clear hK K
            refine norm_ (a':=?_) ?_ ?_
            rotate_left
            ·show Act.put _ (some 46) _ = _
             simp only [Act.put,setIfInBounds_toArray,set_cons_zero,set_cons_succ,i64_w,i32_w]
             rfl
            refine one_ (i:=15) (N:=some 47) (bm 69 65535) rfl rfl (one_of HT_.out (by kernel_rfl)) (by decide) (fun K hK => ?_)
            refine goes_ Tryd.func46 (by kernel_rfl) rfl #[.int .i64 a0_2,.int .i64 t188,.int .i64 999999] (by rfl) rfl rfl mA ?_
            with_reducible refine (spec_l01In.calls a0_2 t188 999999 true _ A23.out).mono ?_
            rintro e w' ⟨rfl,⟨nd,rfl⟩⟩
            refine ⟨_,rfl,?_⟩
            refine hK.out _ _ ⟨(blk_cell BK181.out 0).trans rfl,(blk_cell BK181.out 1).trans rfl,(blk_cell BK181.out 2).trans rfl,(blk_cell BK181.out 3).trans rfl,(blk_cell BK181.out 4).trans rfl,(blk_cell BK181.out 5).trans rfl,(blk_cell BK181.out 6).trans rfl,(blk_cell BK181.out 7).trans rfl,(blk_cell BK181.out 8).trans rfl,(blk_cell BK181.out 9).trans rfl,(blk_cell BK181.out 10).trans rfl,(blk_cell BK181.out 11).trans rfl,(blk_cell BK181.out 12).trans rfl,(blk_cell BK181.out 13).trans rfl,(blk_cell BK181.out 14).trans rfl,(blk_cell BK181.out 15).trans rfl⟩ (fun hHeld => ?_)
            clear hK K
            refine norm_ (a':=?_) ?_ ?_
            rotate_left
            ·show Act.put _ (some 47) _ = _
             simp only [Act.put,setIfInBounds_toArray,set_cons_zero,set_cons_succ,i64_w,i32_w]
             rfl
            refine pV_ 16 48 (bm 69 131071) HT_.out ?_
            refine pV_ 17 49 (bm 69 262143) HT_.out ?_
            refine pV_ 18 50 (bm 69 524287) HT_.out ?_
            refine pV_ 19 51 (bm 69 1048575) HT_.out ?_
            refine pV_ 20 52 (bm 69 2097151) HT_.out ?_
            refine pV_ 21 53 (bm 69 4194303) HT_.out ?_
            refine take_ (i:=22) (N:=some 54) (v:=?_) (a':=?_) (bm 69 8388607) rfl rfl (take_ofW HT_.out HW_.out (by kernel_rfl)) (fun _ _ _ h => h) (Or.inl ⟨by rfl,?_⟩) hHeld ?_ ?_
            rotate_left
            ·rintro w' ⟨s0,s1,s2,s3,s4,s5,s6,s7,s8,s9,s10,s11,s12,s13,s14,s15⟩
             go_simp
             with_reducible rfl
            rotate_left
            ·simp only [Act.put,setIfInBounds_toArray,set_cons_zero,set_cons_succ,i64_w,i32_w]
             rfl
            refine one_ (i:=23) (N:=some 55) (bm 69 16777215) rfl rfl (one_of HT_.out (by kernel_rfl)) (by decide) (fun K hK => ?_)
            refine goes_ Tryd.func48 (by kernel_rfl) rfl #[.agg #[.int .i64 a0_3,.int .i64 a0_4,.int .i64 a0_5,.int .i64 a0_6,.int .i64 a0_7,.string a0_8]] (by rfl) rfl rfl mA ?_
            with_reducible refine (spec_RecordOK.calls k1 a0_3 a0_4 a0_5 a0_6 a0_7 a0_8 true _ A26.out).mono ?_
            rintro e w67 ⟨rfl,hb⟩
            refine ⟨_,rfl,?_⟩
            have n0_ := Aside0.mk (blk_below (g:=gb181) (o:=.cells #[.int .i64 a0_0,.int .i64 a0_1,.int .i64 a0_2,.int .i64 a0_3,.int .i64 a0_4,.int .i64 a0_5,.int .i64 a0_6,.int .i64 a0_7,.string a0_8,.slice A0_9 l0_9.length c0_9,.int .i64 a0_10,.int .i64 a0_11,.int .i64 a0_12,.int .i64 a0_13,.int .i64 a0_14,.int .i64 a0_15] 51 (0,0)) (kA BK181.out) hb)
            have n1_ := Aside0.mk (below_step bA hb)
            clear BK181
            clear HB
            have BK181 := n0_
            have HB := n1_
            clear n0_ n1_
            (try clear hb)
            (try clear hb2)
            (try clear hk)
            (try clear hi)
            refine hK.out _ _ ⟨(blk_cell BK181.out 0).trans rfl,(blk_cell BK181.out 1).trans rfl,(blk_cell BK181.out 2).trans rfl,(blk_cell BK181.out 3).trans rfl,(blk_cell BK181.out 4).trans rfl,(blk_cell BK181.out 5).trans rfl,(blk_cell BK181.out 6).trans rfl,(blk_cell BK181.out 7).trans rfl,(blk_cell BK181.out 8).trans rfl,(blk_cell BK181.out 9).trans rfl,(blk_cell BK181.out 10).trans rfl,(blk_cell BK181.out 11).trans rfl,(blk_cell BK181.out 12).trans rfl,(blk_cell BK181.out 13).trans rfl,(blk_cell BK181.out 14).trans rfl,(blk_cell BK181.out 15).trans rfl⟩ (fun hHeld => ?_)
            clear hK K
            refine norm_ (a':=?_) ?_ ?_
            rotate_left
            ·show Act.put _ (some 55) _ = _
             simp only [Act.put,setIfInBounds_toArray,set_cons_zero,set_cons_succ,i64_w,i32_w]
             rfl
            refine pV_ 24 56 (bm 69 33554431) HT_.out ?_
            refine pV_ 25 57 (bm 69 67108863) HT_.out ?_
            refine pV_ 26 58 (bm 69 134217727) HT_.out ?_
            refine pV_ 28 60 (bm 69 402653183) HT_.out ?_
            refine take_ (i:=27) (N:=some 59) (v:=?_) (a':=?_) (bm 69 536870911) rfl rfl (take_ofW HT_.out HW_.out (by kernel_rfl)) (fun _ _ _ h => h) (Or.inl ⟨by rfl,?_⟩) hHeld ?_ ?_
            rotate_left
            ·rintro w' ⟨s0,s1,s2,s3,s4,s5,s6,s7,s8,s9,s10,s11,s12,s13,s14,s15⟩
             go_simp
             with_reducible rfl
            rotate_left
            ·simp only [Act.put,setIfInBounds_toArray,set_cons_zero,set_cons_succ,i64_w,i32_w]
             rfl
            refine take_ (i:=29) (N:=some 61) (v:=?_) (a':=?_) (bm 69 1073741823) rfl rfl (take_ofW HT_.out HW_.out (by kernel_rfl)) (fun _ _ _ h => h) (Or.inl ⟨by rfl,?_⟩) hHeld ?_ ?_
            rotate_left
            ·rintro w' ⟨s0,s1,s2,s3,s4,s5,s6,s7,s8,s9,s10,s11,s12,s13,s14,s15⟩
             go_simp
             with_reducible rfl
            rotate_left
            ·simp only [Act.put,setIfInBounds_toArray,set_cons_zero,set_cons_succ,i64_w,i32_w]
             rfl
            refine pV_ 30 62 (bm 69 2147483647) HT_.out ?_
            refine pV_ 31 63 (bm 69 4294967295) HT_.out ?_
            refine pV_ 32 64 (bm 69 8589934591) HT_.out ?_
            refine pV_ 33 65 (bm 69 17179869183) HT_.out ?_
            refine pV_ 34 66 (bm 69 34359738367) HT_.out ?_
            refine take_ (i:=35) (N:=some 67) (v:=?_) (a':=?_) (bm 69 68719476735) rfl rfl (take_ofW HT_.out HW_.out (by kernel_rfl)) (fun _ _ _ h => h) (Or.inl ⟨by rfl,?_⟩) hHeld ?_ ?_
            rotate_left
            ·rintro w' ⟨s0,s1,s2,s3,s4,s5,s6,s7,s8,s9,s10,s11,s12,s13,s14,s15⟩
             go_simp
             with_reducible rfl
            rotate_left
            ·simp only [Act.put,setIfInBounds_toArray,set_cons_zero,set_cons_succ,i64_w,i32_w]
             rfl
            refine pV_ 36 68 (bm 69 137438953471) HT_.out ?_
            refine pV_ 37 69 (bm 69 274877906943) HT_.out ?_
            refine pV_ 38 70 (bm 69 549755813887) HT_.out ?_
            refine take_ (i:=39) (N:=some 71) (v:=?_) (a':=?_) (bm 69 1099511627775) rfl rfl (take_ofW HT_.out HW_.out (by kernel_rfl)) (fun _ _ _ h => h) (Or.inl ⟨by rfl,?_⟩) hHeld ?_ ?_
            rotate_left
            ·rintro w' ⟨s0,s1,s2,s3,s4,s5,s6,s7,s8,s9,s10,s11,s12,s13,s14,s15⟩
             go_simp
             with_reducible rfl
            rotate_left
            ·simp only [Act.put,setIfInBounds_toArray,set_cons_zero,set_cons_succ,i64_w,i32_w]
             rfl
            refine pV_ 40 72 (bm 69 2199023255551) HT_.out ?_
            refine pV_ 41 73 (bm 69 4398046511103) HT_.out ?_
            refine pU_ 42 74 (bm 69 8796093022207) HT_.out ?_
            refine pU_ 43 75 (bm 69 17592186044415) HT_.out ?_
            refine pU_ 44 76 (bm 69 35184372088831) HT_.out ?_
            refine pU_ 45 77 (bm 69 70368744177663) HT_.out ?_
            refine pV_ 46 78 (bm 69 140737488355327) HT_.out ?_
            refine pV_ 47 79 (bm 69 281474976710655) HT_.out ?_
            refine pV_ 48 80 (bm 69 562949953421311) HT_.out ?_
            refine pV_ 49 81 (bm 69 1125899906842623) HT_.out ?_
            refine pV_ 50 82 (bm 69 2251799813685247) HT_.out ?_
            refine pV_ 51 83 (bm 69 4503599627370495) HT_.out ?_
            refine pU_ 52 84 (bm 69 9007199254740991) HT_.out ?_
            refine pU_ 53 85 (bm 69 18014398509481983) HT_.out ?_
            refine pU_ 54 86 (bm 69 36028797018963967) HT_.out ?_
            refine pV_ 55 87 (bm 69 72057594037927935) HT_.out ?_
            refine pV_ 56 88 (bm 69 144115188075855871) HT_.out ?_
            refine pU_ 57 89 (bm 69 288230376151711743) HT_.out ?_
            refine pU_ 58 90 (bm 69 576460752303423487) HT_.out ?_
            refine pU_ 59 91 (bm 69 1152921504606846975) HT_.out ?_
            refine pU_ 60 92 (bm 69 2305843009213693951) HT_.out ?_
            refine pV_ 61 93 (bm 69 4611686018427387903) HT_.out ?_
            refine pV_ 62 94 (bm 69 9223372036854775807) HT_.out ?_
            refine pU_ 63 95 (bm 69 18446744073709551615) HT_.out ?_
            refine pU_ 64 96 (bm 69 36893488147419103231) HT_.out ?_
            refine pU_ 65 97 (bm 69 73786976294838206463) HT_.out ?_
            refine pU_ 66 98 (bm 69 147573952589676412927) HT_.out ?_
            refine pV_ 67 99 (bm 69 295147905179352825855) HT_.out ?_
            refine pV_ 68 2 (bm 69 590295810358705651711) HT_.out ?_
            refine done_ (done_of HT_.out (by kernel_rfl)) ?_
            try go_wp2
            go_ret
            exact ⟨by first | rfl | (simp only [i64_w,i32_w] <;> rfl) | (simp [errW_none,errW_some] <;> rfl) | (simp [*,errW_none,errW_some] <;> rfl),bA⟩
theorem spec_WorkerOK.calls (k : Nat) (a0_0 : Int) (a0_1 : Int) (a0_2 : Int) (a0_3 : Int) (a0_4 : Int) (a0_5 : Int) (a0_6 : Int) (a0_7 : Int) (a0_8 : ByteArray) (A0_9 : Option Addr) (c0_9 : Nat) (l0_9 : List (S84)) (a0_10 : Int) (a0_11 : Int) (a0_12 : Int) (a0_13 : Int) (a0_14 : Int) (a0_15 : Int) (r : Bool) (w : World) (hr0_9 : Kd.C k84 w A0_9 l0_9.length l0_9) (hc0_9 : l0_9.length ≤ c0_9) (h : spec_WorkerOK.f k a0_0 a0_1 a0_2 a0_3 a0_4 a0_5 a0_6 a0_7 a0_8 l0_9 a0_10 a0_11 a0_12 a0_13 a0_14 a0_15 = some r) : Calls Tryd.prog 18 #[.agg #[.int .i64 a0_0,.int .i64 a0_1,.int .i64 a0_2,.int .i64 a0_3,.int .i64 a0_4,.int .i64 a0_5,.int .i64 a0_6,.int .i64 a0_7,.string a0_8,.slice A0_9 l0_9.length c0_9,.int .i64 a0_10,.int .i64 a0_11,.int .i64 a0_12,.int .i64 a0_13,.int .i64 a0_14,.int .i64 a0_15]] w fun e w' => e = .returned (.bool r) ∧ Below w.heap.size w w' := (spec_WorkerOK_cut1.2 ⟨(spec_WorkerOK_cut2.2 ⟨spec_WorkerOK_cut3⟩)⟩) k a0_0 a0_1 a0_2 a0_3 a0_4 a0_5 a0_6 a0_7 a0_8 A0_9 c0_9 l0_9 a0_10 a0_11 a0_12 a0_13 a0_14 a0_15 r w hr0_9 hc0_9 h

end Go.Proofs.YtleifhnoaaphmaaDoor.XFnExactWorkerOK


