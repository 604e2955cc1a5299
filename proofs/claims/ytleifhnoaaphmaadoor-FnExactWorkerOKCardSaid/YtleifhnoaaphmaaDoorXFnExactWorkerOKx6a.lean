-- Printed by this session's own program wip/tools/xprint.py, which widens the kit's print. Not trusted: Lean checks it.
import Derived.Test.YtleifhnoaaphmaaDoorXFnExactWorkerOKx0
import Derived.Test.YtleifhnoaaphmaaDoorXFnExactWorkerOKx2
import Derived.Test.YtleifhnoaaphmaaDoorXFnExactWorkerOKx4
import Derived.Test.YtleifhnoaaphmaaDoorXFnExactWorkerOKx5
namespace Go.Proofs.YtleifhnoaaphmaaDoor.XFnExactWorkerOK
open List (setIfInBounds_toArray set_cons_zero set_cons_succ)
open Go.RowKit Go.Proofs.YtleifhnoaaphmaaDoorW.PrintWords Go.Proofs.YtleifhnoaaphmaaDoorW.PrintLast Go.Proofs.YtleifhnoaaphmaaDoorW.PrintMore
attribute [local go_sem] max2_int min2_int max_two min_two max_three min_three max_four min_four   -- for this text's walks alone
set_option linter.unusedVariables false
set_option linter.unusedSimpArgs false

/-! ### spec_WorkerOK: function 18 -/
def spec_WorkerOK.l0 : Nat → Int → Int → Int → Int → Int → Int → Int → Int → Int → ByteArray → List (S84) → Int → Int → Int → Int → Int → Int → Option (Bool)
 | 0,_,_,_,_,_,_,_,_,_,_,_,_,_,_,_,_,_ => none
 | k + 1,x3,x182000,x182001,x182002,x182003,x182004,x182005,x182006,x182007,x182008,x182009,x182010,x182011,x182012,x182013,x182014,x182015 => if x3 < (x182009.length : Int) then (if 0 ≤ x3 then ((spec_l06Tiered.f k 0 0 ((rd_T84 x182009 x3).f0) ((rd_T84 x182009 x3).f1) ((rd_T84 x182009 x3).f2) ((rd_T84 x182009 x3).f3) 0).bind fun t184 => (if t184 = true then (spec_WorkerOK.l0 k (wrap64 (x3 + 1)) x182000 x182001 x182002 x182003 x182004 x182005 x182006 x182007 x182008 x182009 x182010 x182011 x182012 x182013 x182014 x182015) else (some false))) else (none)) else ((spec_l01In.f x182001 4 6).bind fun t185 => ((spec_l01In.f x182000 0 9).bind fun t186 => (if t186 = true then ((spec_l01In.f x182001 0 7).bind fun t187 => (if t187 = true then ((spec_l01Bit.f (decide (x182001 > 1))).bind fun t188 => ((spec_l01In.f x182002 t188 999999).bind fun t189 => (if t189 = true then (if t185 = true then ((spec_RecordOK.f k x182003 x182004 x182005 x182006 x182007 x182008).bind fun t190 => (if t190 = true then (if x182004 = x182002 then (if x182003 = 3 then ((spec_AggOK.f x182010 x182011 x182012 x182013 x182014 x182015).bind fun t191 => (if t191 = true then (if x182010 ≤ 1000 then (some (decide ((x182009.length : Int) ≤ 300))) else (some false)) else (some false))) else (if x182001 = 6 then (if x182003 = 4 then ((spec_AggOK.f x182010 x182011 x182012 x182013 x182014 x182015).bind fun t192 => (if t192 = true then (if x182010 ≤ 1000 then (some (decide ((x182009.length : Int) ≤ 300))) else (some false)) else (some false))) else (some false)) else (some false))) else (some false)) else (some false))) else ((spec_AggOK.f x182010 x182011 x182012 x182013 x182014 x182015).bind fun t193 => (if t193 = true then (if x182010 ≤ 1000 then (some (decide ((x182009.length : Int) ≤ 300))) else (some false)) else (some false)))) else (some false)))) else (some false))) else (some false))))
def spec_WorkerOK.f (k : Nat) (a0_0 : Int) (a0_1 : Int) (a0_2 : Int) (a0_3 : Int) (a0_4 : Int) (a0_5 : Int) (a0_6 : Int) (a0_7 : Int) (a0_8 : ByteArray) (l0_9 : List (S84)) (a0_10 : Int) (a0_11 : Int) (a0_12 : Int) (a0_13 : Int) (a0_14 : Int) (a0_15 : Int) : Option (Bool) := spec_WorkerOK.l0 k 0 a0_0 a0_1 a0_2 a0_3 a0_4 a0_5 a0_6 a0_7 a0_8 l0_9 a0_10 a0_11 a0_12 a0_13 a0_14 a0_15
theorem spec_WorkerOK.mono_l : ∀ k,(∀ y0 y1 y2 y3 y4 y5 y6 y7 y8 y9 y10 y11 y12 y13 y14 y15 y16,LeO (spec_WorkerOK.l0 k y0 y1 y2 y3 y4 y5 y6 y7 y8 y9 y10 y11 y12 y13 y14 y15 y16) (spec_WorkerOK.l0 (k + 1) y0 y1 y2 y3 y4 y5 y6 y7 y8 y9 y10 y11 y12 y13 y14 y15 y16))
 | 0 => fun _ _ _ _ _ _ _ _ _ _ _ _ _ _ _ _ _ r h => by simp [spec_WorkerOK.l0] at h
 | k + 1 => by
  have ih0 := spec_WorkerOK.mono_l k
  ·intro y0 y1 y2 y3 y4 y5 y6 y7 y8 y9 y10 y11 y12 y13 y14 y15 y16
   unfold spec_WorkerOK.l0
   repeat' first
   | (with_reducible exact ih0 _ _ _ _ _ _ _ _ _ _ _ _ _ _ _ _ _)
   | (with_reducible exact spec_RecordOK.mono _ _ _ _ _ _ _)
   | (with_reducible exact spec_l06Tiered.mono _ _ _ _ _ _ _ _)
   | (with_reducible exact LeO.refl _)
   | (with_reducible exact LeO.none _)
   | (with_reducible refine LeO.ite ?_ ?_)
   | (with_reducible refine LeO.bind ?_ (fun _ => ?_))
   | exact ih0 _ _ _ _ _ _ _ _ _ _ _ _ _ _ _ _ _
   | exact spec_RecordOK.mono _ _ _ _ _ _ _
   | exact spec_l06Tiered.mono _ _ _ _ _ _ _ _
   | exact LeO.none _
   | refine LeO.ite ?_ ?_
   | refine LeO.bind ?_ (fun _ => ?_)
theorem spec_WorkerOK.mono : ∀ a0 a1 a2 a3 a4 a5 a6 a7 a8 a9 a10 a11 a12 a13 a14 a15 k,LeO (spec_WorkerOK.f k a0 a1 a2 a3 a4 a5 a6 a7 a8 a9 a10 a11 a12 a13 a14 a15) (spec_WorkerOK.f (k + 1) a0 a1 a2 a3 a4 a5 a6 a7 a8 a9 a10 a11 a12 a13 a14 a15) := by
 intro a0 a1 a2 a3 a4 a5 a6 a7 a8 a9 a10 a11 a12 a13 a14 a15 k
 have ih0 := spec_WorkerOK.mono_l k
 unfold spec_WorkerOK.f
 repeat' first
   | (with_reducible exact ih0 _ _ _ _ _ _ _ _ _ _ _ _ _ _ _ _ _)
   | (with_reducible exact spec_RecordOK.mono _ _ _ _ _ _ _)
   | (with_reducible exact spec_l06Tiered.mono _ _ _ _ _ _ _ _)
   | (with_reducible exact LeO.refl _)
   | (with_reducible exact LeO.none _)
   | (with_reducible refine LeO.ite ?_ ?_)
   | (with_reducible refine LeO.bind ?_ (fun _ => ?_))
   | exact ih0 _ _ _ _ _ _ _ _ _ _ _ _ _ _ _ _ _
   | exact spec_RecordOK.mono _ _ _ _ _ _ _
   | exact spec_l06Tiered.mono _ _ _ _ _ _ _ _
   | exact LeO.none _
   | refine LeO.ite ?_ ?_
   | refine LeO.bind ?_ (fun _ => ?_)
def spec_WorkerOK.T8 : Bool × List (List Nat × List Nat) := (true,[([],[]),([0],[0]),([1],[1]),([2,2],[2]),([3],[3]),([4,3],[3,4]),([5,3,3],[3,5]),([3,6],[3,6]),([7,6],[7]),([8],[8]),([9,8],[8,9]),([8],[8]),([11,8],[8,11]),([12,8],[8,12]),([13,8,8],[8,13]),([10,14,14,8],[8,10,14]),([8,15],[8,15]),([16,15],[16]),([17],[17]),([18,17],[17,18]),([19,17,17],[17,19]),([20],[20]),([21,20],[20,21]),([22,20,20],[20,22]),([23,23,20],[20,23]),([24],[24]),([25,24],[24,25]),([26,24],[24,26]),([24],[24]),([28,24],[24,28]),([27,29,24],[24,27,29]),([24,30,20],[20,24,30]),([31,24,20],[20,31]),([32],[32]),([33,32],[32,33]),([34,32],[32,34]),([35,32],[32,35]),([36,32,32],[32,36]),([37],[37]),([38,37],[37,38]),([39,37],[37,39]),([40,37,37],[37,40]),([41],[41]),([42,41],[41,42]),([43,41],[41,43]),([44,41],[41,44]),([41,45,37],[37,41,45]),([37,46,32],[32,37,46]),([32,47,20],[20,32,47]),([20,48,17],[17,20,48]),([17,49],[17,49]),([50,41],[50]),([51],[51]),([52,51],[51,52]),([53,51,51],[51,53]),([51,54],[51,54]),([55,54],[55]),([56],[56]),([57,56],[56,57]),([58,56],[56,58]),([59,56],[56,59]),([56,60],[56,60]),([61,56],[61]),([62],[62]),([63,62],[62,63]),([64,62],[62,64]),([65,62],[62,65]),([62,66],[62,66]),([67,62,0,1,2,3,4,5,6,7,8,9,10,11,12,13,14,15,16,17,18,19,20,21,22,23,24,25,26,27,28,29,30,31,32,33,34,35,36,37,38,39,40,41,42,43,44,45,46,47,48,49,50,51,52,53,54,55,56,57,58,59,60,61,62,63,64,65,66,67],[67])])
def spec_WorkerOK.B8 : List Nat := [0,1,3,7,15,31,63,127,255,511,1023,511,2559,6655,14847,32767,65535,131071,262143,524287,1048575,2097151,4194303,8388607,16777215,33554431,67108863,134217727,33554431,301989887,1073741823,2147483647,4294967295,8589934591,17179869183,34359738367,68719476735,137438953471,274877906943,549755813887,1099511627775,2199023255551,4398046511103,8796093022207,17592186044415,35184372088831,70368744177663,140737488355327,281474976710655,562949953421311,1125899906842623,2251799813685247,4503599627370495,9007199254740991,18014398509481983,36028797018963967,72057594037927935,144115188075855871,288230376151711743,576460752303423487,1152921504606846975,2305843009213693951,4611686018427387903,9223372036854775807,18446744073709551615,36893488147419103231,73786976294838206463,147573952589676412927,295147905179352825855]
theorem spec_WorkerOK.tab8 : rtab .any (opsOf Tryd.f18 8) = spec_WorkerOK.T8 := by kernel_rfl
theorem spec_WorkerOK.bits8 : waitsOk spec_WorkerOK.T8.2 spec_WorkerOK.B8 = true := by kernel_rfl
/-- What follows a cut. -/
structure CutW (p : Prop) : Prop where
  out : p
set_option maxHeartbeats 8000000 in
set_option maxRecDepth 100000 in
noncomputable def spec_WorkerOK_cut1 : PSigma (fun M_ : Prop => CutW M_ → ∀ (k : Nat) (a0_0 : Int) (a0_1 : Int) (a0_2 : Int) (a0_3 : Int) (a0_4 : Int) (a0_5 : Int) (a0_6 : Int) (a0_7 : Int) (a0_8 : ByteArray) (A0_9 : Option Addr) (c0_9 : Nat) (l0_9 : List (S84)) (a0_10 : Int) (a0_11 : Int) (a0_12 : Int) (a0_13 : Int) (a0_14 : Int) (a0_15 : Int) (r : Bool) (w : World) (hr0_9 : Kd.C k84 w A0_9 l0_9.length l0_9) (hc0_9 : l0_9.length ≤ c0_9) (h : spec_WorkerOK.f k a0_0 a0_1 a0_2 a0_3 a0_4 a0_5 a0_6 a0_7 a0_8 l0_9 a0_10 a0_11 a0_12 a0_13 a0_14 a0_15 = some r), Calls Tryd.prog 18 #[.agg #[.int .i64 a0_0,.int .i64 a0_1,.int .i64 a0_2,.int .i64 a0_3,.int .i64 a0_4,.int .i64 a0_5,.int .i64 a0_6,.int .i64 a0_7,.string a0_8,.slice A0_9 l0_9.length c0_9,.int .i64 a0_10,.int .i64 a0_11,.int .i64 a0_12,.int .i64 a0_13,.int .i64 a0_14,.int .i64 a0_15]] w fun e w' => e = .returned (.bool r) ∧ Below w.heap.size w w') := by
 apply PSigma.mk
 case snd =>
  intro hm_ k a0_0 a0_1 a0_2 a0_3 a0_4 a0_5 a0_6 a0_7 a0_8 A0_9 c0_9 l0_9 a0_10 a0_11 a0_12 a0_13 a0_14 a0_15 r w hr0_9 hc0_9 h
  have hu51 := Tryd.underlying51
  have hu84 := Tryd.underlying84
  have hu47 := Tryd.underlying47
  have hu49 := Tryd.underlying49
  have HR0_9 := Aside0.mk hr0_9
  have HC0_9 := Aside0.mk hc0_9
  clear hr0_9 hc0_9
  have HB := Aside0.mk (Below.refl w.heap.size w)
  have H : (spec_WorkerOK.l0 k 0 a0_0 a0_1 a0_2 a0_3 a0_4 a0_5 a0_6 a0_7 a0_8 l0_9 a0_10 a0_11 a0_12 a0_13 a0_14 a0_15) = some r := h
  clear h
  have H' := Aside0.mk H
  clear H
  go_enter Tryd.func18,Tryd.ntmps18
  go_wp2_with (first | ((with_reducible refine gate_dst (N:=1) rfl ?_); (try (refine gate_guard (by rfl) ?_; dsimp only)); refine box_event ?hg (N:=1) ?hd (cs := #[.int .i64 a0_0,.int .i64 a0_1,.int .i64 a0_2,.int .i64 a0_3,.int .i64 a0_4,.int .i64 a0_5,.int .i64 a0_6,.int .i64 a0_7,.string a0_8,.slice A0_9 l0_9.length c0_9,.int .i64 a0_10,.int .i64 a0_11,.int .i64 a0_12,.int .i64 a0_13,.int .i64 a0_14,.int .i64 a0_15]) (t:=51) ?hr ?_; (case hd => rfl); (case hg => rfl); (case hr => first | (go_simp; done) | (go_simp; rfl)); intro gb181 hg w2 hbox hb; have n0_ := Aside0.mk (below_step bA hb); have n1_ := Aside0.mk (hbox); have n2_ := Aside0.mk ((by rw [hg]; exact (below_size bA) : w.heap.size ≤ gb181)); have n3_ := Aside0.mk ((by rw [hg]; exact (below_size bA) : w.heap.size ≤ gb181)); clear HB; have HB := n0_; have BK181 := n1_; have GW181 := n2_; have GE181 := n3_; clear n0_ n1_ n2_ n3_; clear hb hbox hg))
  go_loopg [3] k (fun kq v3 w' => ∃ (x3_1 : Int),v3 = .int .i64 x3_1 ∧ Aside0 (spec_WorkerOK.l0 kq x3_1 a0_0 a0_1 a0_2 a0_3 a0_4 a0_5 a0_6 a0_7 a0_8 l0_9 a0_10 a0_11 a0_12 a0_13 a0_14 a0_15 = some r) ∧ Aside0 (kq ≤ k) ∧ Aside0 (w'.heap[gb181]? = some (.cells #[.int .i64 a0_0,.int .i64 a0_1,.int .i64 a0_2,.int .i64 a0_3,.int .i64 a0_4,.int .i64 a0_5,.int .i64 a0_6,.int .i64 a0_7,.string a0_8,(.slice A0_9 l0_9.length c0_9),.int .i64 a0_10,.int .i64 a0_11,.int .i64 a0_12,.int .i64 a0_13,.int .i64 a0_14,.int .i64 a0_15] 51 (0,0))) ∧ Aside0 (Below w.heap.size w w'))
  case atStart => exact ⟨(0),(by first | rfl | (simp; done) | (simp [*]; done)),H',⟨Nat.le_refl _⟩,⟨kA BK181.out⟩,⟨bA⟩⟩
  case round =>
   clear H'
   try clear c1
   try clear p2
   obtain ⟨x3_1,rfl,HA,HK1,BK181,HB⟩ := hrel
   cases gk with
   | zero => exact absurd HA.out (by simp [spec_WorkerOK.l0])
   | succ k1 =>
    have H := HA.out
    clear HA
    simp only [spec_WorkerOK.l0] at H
    by_cases c3 : x3_1 < (l0_9.length : Int)
    ·rw [if_pos c3] at H
     have c3b0 : decide (x3_1 < (l0_9.length : Int)) = true := decide_eq_true c3
     clear c3
     by_cases c4 : 0 ≤ x3_1
     ·rw [if_pos c4] at H
      have c4b0 : decide (0 ≤ x3_1) = true := decide_eq_true c4
      clear c4
      replace H := Option.bind_eq_some_iff.mp H
      obtain ⟨t184,A50,H⟩ := H
      try dsimp only at H
      have A5 := Aside0.mk A50
      clear A50
      by_cases c6 : t184 = true
      ·subst c6
       rw [if_pos rfl] at H
       have H' := Aside0.mk H
       clear H
       have hcz7_0 : wr.cell? ⟨gb181,0,none⟩ = some (.int .i64 a0_0) := (blk_cell BK181.out 0).trans rfl
       have hcz7_1 : wr.cell? ⟨gb181,1,none⟩ = some (.int .i64 a0_1) := (blk_cell BK181.out 1).trans rfl
       have hcz7_2 : wr.cell? ⟨gb181,2,none⟩ = some (.int .i64 a0_2) := (blk_cell BK181.out 2).trans rfl
       have hcz7_3 : wr.cell? ⟨gb181,3,none⟩ = some (.int .i64 a0_3) := (blk_cell BK181.out 3).trans rfl
       have hcz7_4 : wr.cell? ⟨gb181,4,none⟩ = some (.int .i64 a0_4) := (blk_cell BK181.out 4).trans rfl
       have hcz7_5 : wr.cell? ⟨gb181,5,none⟩ = some (.int .i64 a0_5) := (blk_cell BK181.out 5).trans rfl
       have hcz7_6 : wr.cell? ⟨gb181,6,none⟩ = some (.int .i64 a0_6) := (blk_cell BK181.out 6).trans rfl
       have hcz7_7 : wr.cell? ⟨gb181,7,none⟩ = some (.int .i64 a0_7) := (blk_cell BK181.out 7).trans rfl
       have hcz7_8 : wr.cell? ⟨gb181,8,none⟩ = some (.string a0_8) := (blk_cell BK181.out 8).trans rfl
       have hcz7_9 : wr.cell? ⟨gb181,9,none⟩ = some (.slice A0_9 l0_9.length c0_9) := (blk_cell BK181.out 9).trans rfl
       have hcz7_10 : wr.cell? ⟨gb181,10,none⟩ = some (.int .i64 a0_10) := (blk_cell BK181.out 10).trans rfl
       have hcz7_11 : wr.cell? ⟨gb181,11,none⟩ = some (.int .i64 a0_11) := (blk_cell BK181.out 11).trans rfl
       have hcz7_12 : wr.cell? ⟨gb181,12,none⟩ = some (.int .i64 a0_12) := (blk_cell BK181.out 12).trans rfl
       have hcz7_13 : wr.cell? ⟨gb181,13,none⟩ = some (.int .i64 a0_13) := (blk_cell BK181.out 13).trans rfl
       have hcz7_14 : wr.cell? ⟨gb181,14,none⟩ = some (.int .i64 a0_14) := (blk_cell BK181.out 14).trans rfl
       have hcz7_15 : wr.cell? ⟨gb181,15,none⟩ = some (.int .i64 a0_15) := (blk_cell BK181.out 15).trans rfl
       have hfz7_0 := blk_frozen BK181.out 0
       have hfz7_1 := blk_frozen BK181.out 1
       have hfz7_2 := blk_frozen BK181.out 2
       have hfz7_3 := blk_frozen BK181.out 3
       have hfz7_4 := blk_frozen BK181.out 4
       have hfz7_5 := blk_frozen BK181.out 5
       have hfz7_6 := blk_frozen BK181.out 6
       have hfz7_7 := blk_frozen BK181.out 7
       have hfz7_8 := blk_frozen BK181.out 8
       have hfz7_9 := blk_frozen BK181.out 9
       have hfz7_10 := blk_frozen BK181.out 10
       have hfz7_11 := blk_frozen BK181.out 11
       have hfz7_12 := blk_frozen BK181.out 12
       have hfz7_13 := blk_frozen BK181.out 13
       have hfz7_14 := blk_frozen BK181.out 14
       have hfz7_15 := blk_frozen BK181.out 15
       have p182 : 0 ≤ (x3_1 : Int) := of_decide_eq_true (by first | (with_reducible assumption) | assumption)
       have q182 : x3_1 < (l0_9.length : Int) := of_decide_eq_true (by first | (with_reducible assumption) | assumption)
       obtain ⟨ad182,e182,hx182_0,hx182_1,hx182_2,hx182_3⟩ := at_T84 HR0_9.out x3_1 p182 q182
       cases e182
       replace hx182_0 := (HB.out.cell (World.block_lt_of_cell? w _ hx182_0)).trans hx182_0
       replace hx182_1 := (HB.out.cell (World.block_lt_of_cell? w _ hx182_1)).trans hx182_1
       replace hx182_2 := (HB.out.cell (World.block_lt_of_cell? w _ hx182_2)).trans hx182_2
       replace hx182_3 := (HB.out.cell (World.block_lt_of_cell? w _ hx182_3)).trans hx182_3
       replace p182 := eq_true p182
       replace q182 := eq_true q182
       go_wp2_with (first | ((with_reducible refine gate_dst (N:=4) rfl ?_); (try (refine gate_guard (by rfl) ?_; dsimp only)); refine box_event ?hg (N:=4) ?hd (cs := #[.int .i64 0,.int .i64 0,.int .i64 0,.string (⟨#[]⟩ : ByteArray)]) (t:=84) ?hr ?_; (case hd => rfl); (case hg => rfl); (case hr => first | (go_simp; done) | (go_simp; rfl)); intro gb183 hg w8 hbox hb; have n0_ := Aside0.mk (blk_below (g:=gb181) (o:=.cells #[.int .i64 a0_0,.int .i64 a0_1,.int .i64 a0_2,.int .i64 a0_3,.int .i64 a0_4,.int .i64 a0_5,.int .i64 a0_6,.int .i64 a0_7,.string a0_8,.slice (some ad182) l0_9.length c0_9,.int .i64 a0_10,.int .i64 a0_11,.int .i64 a0_12,.int .i64 a0_13,.int .i64 a0_14,.int .i64 a0_15] 51 (0,0)) (kA BK181.out) hb); have n1_ := Aside0.mk (below_step bA hb); have n2_ := Aside0.mk (hbox); have n3_ := Aside0.mk ((by rw [hg]; exact (below_size bA) : w.heap.size ≤ gb183)); have n4_ := Aside0.mk ((by rw [hg]; exact (below_size bA) : w.heap.size ≤ gb183)); have n5_ := Aside0.mk ((by rw [hg]; exact Nat.ne_of_lt (blk_lt (g:=gb181) (o:=.cells #[.int .i64 a0_0,.int .i64 a0_1,.int .i64 a0_2,.int .i64 a0_3,.int .i64 a0_4,.int .i64 a0_5,.int .i64 a0_6,.int .i64 a0_7,.string a0_8,.slice (some ad182) l0_9.length c0_9,.int .i64 a0_10,.int .i64 a0_11,.int .i64 a0_12,.int .i64 a0_13,.int .i64 a0_14,.int .i64 a0_15] 51 (0,0)) (kA BK181.out)) : gb181 ≠ gb183)); have n6_ := Aside0.mk ((by rw [hg]; exact Nat.ne_of_gt (blk_lt (g:=gb181) (o:=.cells #[.int .i64 a0_0,.int .i64 a0_1,.int .i64 a0_2,.int .i64 a0_3,.int .i64 a0_4,.int .i64 a0_5,.int .i64 a0_6,.int .i64 a0_7,.string a0_8,.slice (some ad182) l0_9.length c0_9,.int .i64 a0_10,.int .i64 a0_11,.int .i64 a0_12,.int .i64 a0_13,.int .i64 a0_14,.int .i64 a0_15] 51 (0,0)) (kA BK181.out)) : gb183 ≠ gb181)); clear BK181; clear HB; have BK181 := n0_; have HB := n1_; have BK183 := n2_; have GW183 := n3_; have GE183 := n4_; have NB181_183 := n5_; have NB183_181 := n6_; clear n0_ n1_ n2_ n3_ n4_ n5_ n6_; clear hb hbox hg; have hnb9 := NB183_181.out; have hnc9 := NB181_183.out; have hcz10_0 : w8.cell? ⟨gb183,0,none⟩ = some (.int .i64 0) := (blk_cell BK183.out 0).trans rfl; have hcz10_1 : w8.cell? ⟨gb183,1,none⟩ = some (.int .i64 0) := (blk_cell BK183.out 1).trans rfl; have hcz10_2 : w8.cell? ⟨gb183,2,none⟩ = some (.int .i64 0) := (blk_cell BK183.out 2).trans rfl; have hcz10_3 : w8.cell? ⟨gb183,3,none⟩ = some (.string (⟨#[]⟩ : ByteArray)) := (blk_cell BK183.out 3).trans rfl; have hfz10_0 := blk_frozen BK183.out 0; have hfz10_1 := blk_frozen BK183.out 1; have hfz10_2 := blk_frozen BK183.out 2; have hfz10_3 := blk_frozen BK183.out 3) | ((with_reducible refine gate_callee (f:=45) rfl ?_); refine goesL_ (some 27) rfl rfl Tryd.func45 (by kernel_rfl) rfl #[.agg #[.int .i64 0,.int .i64 0,.int .i64 ((rd_T84 l0_9 x3_1).f0),.int .i64 ((rd_T84 l0_9 x3_1).f1),.int .i64 ((rd_T84 l0_9 x3_1).f2),.string ((rd_T84 l0_9 x3_1).f3)],.int .i64 0] rfl mA ?_; (with_reducible refine (spec_l06Tiered.calls k1 0 0 ((rd_T84 l0_9 x3_1).f0) ((rd_T84 l0_9 x3_1).f1) ((rd_T84 l0_9 x3_1).f2) ((rd_T84 l0_9 x3_1).f3) 0 true _ A5.out).mono ?_); rintro e w11 ⟨rfl,hb⟩; refine ⟨_,rfl,?_⟩; have n0_ := Aside0.mk (blk_below (g:=gb181) (o:=.cells #[.int .i64 a0_0,.int .i64 a0_1,.int .i64 a0_2,.int .i64 a0_3,.int .i64 a0_4,.int .i64 a0_5,.int .i64 a0_6,.int .i64 a0_7,.string a0_8,.slice (some ad182) l0_9.length c0_9,.int .i64 a0_10,.int .i64 a0_11,.int .i64 a0_12,.int .i64 a0_13,.int .i64 a0_14,.int .i64 a0_15] 51 (0,0)) (kF BK181.out) hb); have n1_ := Aside0.mk (blk_below (g:=gb183) (o:=.cells #[.int .i64 ((rd_T84 l0_9 x3_1).f0),.int .i64 ((rd_T84 l0_9 x3_1).f1),.int .i64 ((rd_T84 l0_9 x3_1).f2),.string ((rd_T84 l0_9 x3_1).f3)] 84 (0,0)) (by (with_reducible repeat (first | refine blk_drewN ?_ _ | refine blk_drew ?_ | refine blk_alloc ?_ _)); refine blk_put (cs := #[.int .i64 ((rd_T84 l0_9 x3_1).f0),.int .i64 ((rd_T84 l0_9 x3_1).f1),.int .i64 ((rd_T84 l0_9 x3_1).f2),.string (⟨#[]⟩ : ByteArray)]) ?_ 3 _ rfl; (with_reducible repeat (first | refine blk_drewN ?_ _ | refine blk_drew ?_ | refine blk_alloc ?_ _)); refine blk_put (cs := #[.int .i64 ((rd_T84 l0_9 x3_1).f0),.int .i64 ((rd_T84 l0_9 x3_1).f1),.int .i64 0,.string (⟨#[]⟩ : ByteArray)]) ?_ 2 _ rfl; (with_reducible repeat (first | refine blk_drewN ?_ _ | refine blk_drew ?_ | refine blk_alloc ?_ _)); refine blk_put (cs := #[.int .i64 ((rd_T84 l0_9 x3_1).f0),.int .i64 0,.int .i64 0,.string (⟨#[]⟩ : ByteArray)]) ?_ 1 _ rfl; (with_reducible repeat (first | refine blk_drewN ?_ _ | refine blk_drew ?_ | refine blk_alloc ?_ _)); refine blk_put (cs := #[.int .i64 0,.int .i64 0,.int .i64 0,.string (⟨#[]⟩ : ByteArray)]) ?_ 0 _ rfl; (with_reducible repeat (first | refine blk_drewN ?_ _ | refine blk_drew ?_ | refine blk_alloc ?_ _)); exact BK183.out) hb); have n2_ := Aside0.mk (below_step bA hb); clear BK181; clear BK183; clear HB; have BK181 := n0_; have BK183 := n1_; have HB := n2_; clear n0_ n1_ n2_; (try clear hb); (try clear hb2); (try clear hk); (try clear hi)))
       go_roundg k1
       case measure => have := HK1.out; omega
       case rel => exact ⟨(wrap64 (x3_1 + 1)),(by first | rfl | (simp; done) | (simp [*]; done)),H',⟨by have := HK1.out; omega⟩,⟨kA BK181.out⟩,⟨bA⟩⟩
      ·replace c6 := Bool.eq_false_iff.mpr c6
       subst c6
       rw [if_neg (show ¬ (false = true) by decide)] at H
       obtain rfl := Option.some.inj H
       have hcz12_0 : wr.cell? ⟨gb181,0,none⟩ = some (.int .i64 a0_0) := (blk_cell BK181.out 0).trans rfl
       have hcz12_1 : wr.cell? ⟨gb181,1,none⟩ = some (.int .i64 a0_1) := (blk_cell BK181.out 1).trans rfl
       have hcz12_2 : wr.cell? ⟨gb181,2,none⟩ = some (.int .i64 a0_2) := (blk_cell BK181.out 2).trans rfl
       have hcz12_3 : wr.cell? ⟨gb181,3,none⟩ = some (.int .i64 a0_3) := (blk_cell BK181.out 3).trans rfl
       have hcz12_4 : wr.cell? ⟨gb181,4,none⟩ = some (.int .i64 a0_4) := (blk_cell BK181.out 4).trans rfl
       have hcz12_5 : wr.cell? ⟨gb181,5,none⟩ = some (.int .i64 a0_5) := (blk_cell BK181.out 5).trans rfl
       have hcz12_6 : wr.cell? ⟨gb181,6,none⟩ = some (.int .i64 a0_6) := (blk_cell BK181.out 6).trans rfl
       have hcz12_7 : wr.cell? ⟨gb181,7,none⟩ = some (.int .i64 a0_7) := (blk_cell BK181.out 7).trans rfl
       have hcz12_8 : wr.cell? ⟨gb181,8,none⟩ = some (.string a0_8) := (blk_cell BK181.out 8).trans rfl
       have hcz12_9 : wr.cell? ⟨gb181,9,none⟩ = some (.slice A0_9 l0_9.length c0_9) := (blk_cell BK181.out 9).trans rfl
       have hcz12_10 : wr.cell? ⟨gb181,10,none⟩ = some (.int .i64 a0_10) := (blk_cell BK181.out 10).trans rfl
       have hcz12_11 : wr.cell? ⟨gb181,11,none⟩ = some (.int .i64 a0_11) := (blk_cell BK181.out 11).trans rfl
       have hcz12_12 : wr.cell? ⟨gb181,12,none⟩ = some (.int .i64 a0_12) := (blk_cell BK181.out 12).trans rfl
       have hcz12_13 : wr.cell? ⟨gb181,13,none⟩ = some (.int .i64 a0_13) := (blk_cell BK181.out 13).trans rfl
       have hcz12_14 : wr.cell? ⟨gb181,14,none⟩ = some (.int .i64 a0_14) := (blk_cell BK181.out 14).trans rfl
       have hcz12_15 : wr.cell? ⟨gb181,15,none⟩ = some (.int .i64 a0_15) := (blk_cell BK181.out 15).trans rfl
       have hfz12_0 := blk_frozen BK181.out 0
       have hfz12_1 := blk_frozen BK181.out 1
       have hfz12_2 := blk_frozen BK181.out 2
       have hfz12_3 := blk_frozen BK181.out 3
       have hfz12_4 := blk_frozen BK181.out 4
       have hfz12_5 := blk_frozen BK181.out 5
       have hfz12_6 := blk_frozen BK181.out 6
       have hfz12_7 := blk_frozen BK181.out 7
       have hfz12_8 := blk_frozen BK181.out 8
       have hfz12_9 := blk_frozen BK181.out 9
       have hfz12_10 := blk_frozen BK181.out 10
       have hfz12_11 := blk_frozen BK181.out 11
       have hfz12_12 := blk_frozen BK181.out 12
       have hfz12_13 := blk_frozen BK181.out 13
       have hfz12_14 := blk_frozen BK181.out 14
       have hfz12_15 := blk_frozen BK181.out 15
       have p182 : 0 ≤ (x3_1 : Int) := of_decide_eq_true (by first | (with_reducible assumption) | assumption)
       have q182 : x3_1 < (l0_9.length : Int) := of_decide_eq_true (by first | (with_reducible assumption) | assumption)
       obtain ⟨ad182,e182,hx182_0,hx182_1,hx182_2,hx182_3⟩ := at_T84 HR0_9.out x3_1 p182 q182
       cases e182
       replace hx182_0 := (HB.out.cell (World.block_lt_of_cell? w _ hx182_0)).trans hx182_0
       replace hx182_1 := (HB.out.cell (World.block_lt_of_cell? w _ hx182_1)).trans hx182_1
       replace hx182_2 := (HB.out.cell (World.block_lt_of_cell? w _ hx182_2)).trans hx182_2
       replace hx182_3 := (HB.out.cell (World.block_lt_of_cell? w _ hx182_3)).trans hx182_3
       replace p182 := eq_true p182
       replace q182 := eq_true q182
       go_wp2_with (first | ((with_reducible refine gate_dst (N:=4) rfl ?_); (try (refine gate_guard (by rfl) ?_; dsimp only)); refine box_event ?hg (N:=4) ?hd (cs := #[.int .i64 0,.int .i64 0,.int .i64 0,.string (⟨#[]⟩ : ByteArray)]) (t:=84) ?hr ?_; (case hd => rfl); (case hg => rfl); (case hr => first | (go_simp; done) | (go_simp; rfl)); intro gb183 hg w13 hbox hb; have n0_ := Aside0.mk (blk_below (g:=gb181) (o:=.cells #[.int .i64 a0_0,.int .i64 a0_1,.int .i64 a0_2,.int .i64 a0_3,.int .i64 a0_4,.int .i64 a0_5,.int .i64 a0_6,.int .i64 a0_7,.string a0_8,.slice (some ad182) l0_9.length c0_9,.int .i64 a0_10,.int .i64 a0_11,.int .i64 a0_12,.int .i64 a0_13,.int .i64 a0_14,.int .i64 a0_15] 51 (0,0)) (kA BK181.out) hb); have n1_ := Aside0.mk (below_step bA hb); have n2_ := Aside0.mk (hbox); have n3_ := Aside0.mk ((by rw [hg]; exact (below_size bA) : w.heap.size ≤ gb183)); have n4_ := Aside0.mk ((by rw [hg]; exact (below_size bA) : w.heap.size ≤ gb183)); have n5_ := Aside0.mk ((by rw [hg]; exact Nat.ne_of_lt (blk_lt (g:=gb181) (o:=.cells #[.int .i64 a0_0,.int .i64 a0_1,.int .i64 a0_2,.int .i64 a0_3,.int .i64 a0_4,.int .i64 a0_5,.int .i64 a0_6,.int .i64 a0_7,.string a0_8,.slice (some ad182) l0_9.length c0_9,.int .i64 a0_10,.int .i64 a0_11,.int .i64 a0_12,.int .i64 a0_13,.int .i64 a0_14,.int .i64 a0_15] 51 (0,0)) (kA BK181.out)) : gb181 ≠ gb183)); have n6_ := Aside0.mk ((by rw [hg]; exact Nat.ne_of_gt (blk_lt (g:=gb181) (o:=.cells #[.int .i64 a0_0,.int .i64 a0_1,.int .i64 a0_2,.int .i64 a0_3,.int .i64 a0_4,.int .i64 a0_5,.int .i64 a0_6,.int .i64 a0_7,.string a0_8,.slice (some ad182) l0_9.length c0_9,.int .i64 a0_10,.int .i64 a0_11,.int .i64 a0_12,.int .i64 a0_13,.int .i64 a0_14,.int .i64 a0_15] 51 (0,0)) (kA BK181.out)) : gb183 ≠ gb181)); clear BK181; clear HB; have BK181 := n0_; have HB := n1_; have BK183 := n2_; have GW183 := n3_; have GE183 := n4_; have NB181_183 := n5_; have NB183_181 := n6_; clear n0_ n1_ n2_ n3_ n4_ n5_ n6_; clear hb hbox hg; have hnb14 := NB183_181.out; have hnc14 := NB181_183.out; have hcz15_0 : w13.cell? ⟨gb183,0,none⟩ = some (.int .i64 0) := (blk_cell BK183.out 0).trans rfl; have hcz15_1 : w13.cell? ⟨gb183,1,none⟩ = some (.int .i64 0) := (blk_cell BK183.out 1).trans rfl; have hcz15_2 : w13.cell? ⟨gb183,2,none⟩ = some (.int .i64 0) := (blk_cell BK183.out 2).trans rfl; have hcz15_3 : w13.cell? ⟨gb183,3,none⟩ = some (.string (⟨#[]⟩ : ByteArray)) := (blk_cell BK183.out 3).trans rfl; have hfz15_0 := blk_frozen BK183.out 0; have hfz15_1 := blk_frozen BK183.out 1; have hfz15_2 := blk_frozen BK183.out 2; have hfz15_3 := blk_frozen BK183.out 3) | ((with_reducible refine gate_callee (f:=45) rfl ?_); refine goesL_ (some 27) rfl rfl Tryd.func45 (by kernel_rfl) rfl #[.agg #[.int .i64 0,.int .i64 0,.int .i64 ((rd_T84 l0_9 x3_1).f0),.int .i64 ((rd_T84 l0_9 x3_1).f1),.int .i64 ((rd_T84 l0_9 x3_1).f2),.string ((rd_T84 l0_9 x3_1).f3)],.int .i64 0] rfl mA ?_; (with_reducible refine (spec_l06Tiered.calls k1 0 0 ((rd_T84 l0_9 x3_1).f0) ((rd_T84 l0_9 x3_1).f1) ((rd_T84 l0_9 x3_1).f2) ((rd_T84 l0_9 x3_1).f3) 0 false _ A5.out).mono ?_); rintro e w16 ⟨rfl,hb⟩; refine ⟨_,rfl,?_⟩; have n0_ := Aside0.mk (blk_below (g:=gb181) (o:=.cells #[.int .i64 a0_0,.int .i64 a0_1,.int .i64 a0_2,.int .i64 a0_3,.int .i64 a0_4,.int .i64 a0_5,.int .i64 a0_6,.int .i64 a0_7,.string a0_8,.slice (some ad182) l0_9.length c0_9,.int .i64 a0_10,.int .i64 a0_11,.int .i64 a0_12,.int .i64 a0_13,.int .i64 a0_14,.int .i64 a0_15] 51 (0,0)) (kF BK181.out) hb); have n1_ := Aside0.mk (blk_below (g:=gb183) (o:=.cells #[.int .i64 ((rd_T84 l0_9 x3_1).f0),.int .i64 ((rd_T84 l0_9 x3_1).f1),.int .i64 ((rd_T84 l0_9 x3_1).f2),.string ((rd_T84 l0_9 x3_1).f3)] 84 (0,0)) (by (with_reducible repeat (first | refine blk_drewN ?_ _ | refine blk_drew ?_ | refine blk_alloc ?_ _)); refine blk_put (cs := #[.int .i64 ((rd_T84 l0_9 x3_1).f0),.int .i64 ((rd_T84 l0_9 x3_1).f1),.int .i64 ((rd_T84 l0_9 x3_1).f2),.string (⟨#[]⟩ : ByteArray)]) ?_ 3 _ rfl; (with_reducible repeat (first | refine blk_drewN ?_ _ | refine blk_drew ?_ | refine blk_alloc ?_ _)); refine blk_put (cs := #[.int .i64 ((rd_T84 l0_9 x3_1).f0),.int .i64 ((rd_T84 l0_9 x3_1).f1),.int .i64 0,.string (⟨#[]⟩ : ByteArray)]) ?_ 2 _ rfl; (with_reducible repeat (first | refine blk_drewN ?_ _ | refine blk_drew ?_ | refine blk_alloc ?_ _)); refine blk_put (cs := #[.int .i64 ((rd_T84 l0_9 x3_1).f0),.int .i64 0,.int .i64 0,.string (⟨#[]⟩ : ByteArray)]) ?_ 1 _ rfl; (with_reducible repeat (first | refine blk_drewN ?_ _ | refine blk_drew ?_ | refine blk_alloc ?_ _)); refine blk_put (cs := #[.int .i64 0,.int .i64 0,.int .i64 0,.string (⟨#[]⟩ : ByteArray)]) ?_ 0 _ rfl; (with_reducible repeat (first | refine blk_drewN ?_ _ | refine blk_drew ?_ | refine blk_alloc ?_ _)); exact BK183.out) hb); have n2_ := Aside0.mk (below_step bA hb); clear BK181; clear BK183; clear HB; have BK181 := n0_; have BK183 := n1_; have HB := n2_; clear n0_ n1_ n2_; (try clear hb); (try clear hb2); (try clear hk); (try clear hi)))
       go_ret
       exact ⟨by first | rfl | (simp only [i64_w,i32_w] <;> rfl) | (simp [errW_none,errW_some] <;> rfl) | (simp [*,errW_none,errW_some] <;> rfl),bA⟩
     ·rw [if_neg c4] at H
      exact absurd H (by simp)
    ·rw [if_neg c3] at H
     have c3b0 : decide (x3_1 < (l0_9.length : Int)) = false := decide_eq_false c3
     clear c3
     replace H := Option.bind_eq_some_iff.mp H
     obtain ⟨t185,A170,H⟩ := H
     try dsimp only at H
     have A17 := Aside0.mk A170
     clear A170
     replace H := Option.bind_eq_some_iff.mp H
     obtain ⟨t186,A180,H⟩ := H
     try dsimp only at H
     have A18 := Aside0.mk A180
     clear A180
     by_cases c19 : t186 = true
     ·subst c19
      rw [if_pos rfl] at H
      replace H := Option.bind_eq_some_iff.mp H
      obtain ⟨t187,A200,H⟩ := H
      try dsimp only at H
      have A20 := Aside0.mk A200
      clear A200
      by_cases c21 : t187 = true
      ·subst c21
       rw [if_pos rfl] at H
       replace H := Option.bind_eq_some_iff.mp H
       obtain ⟨t188,A220,H⟩ := H
       try dsimp only at H
       have A22 := Aside0.mk A220
       clear A220
       replace H := Option.bind_eq_some_iff.mp H
       obtain ⟨t189,A230,H⟩ := H
       try dsimp only at H
       have A23 := Aside0.mk A230
       clear A230
       by_cases c24 : t189 = true
       ·subst c24
        rw [if_pos rfl] at H
        by_cases c25 : t185 = true
        ·subst c25
         rw [if_pos rfl] at H
         replace H := Option.bind_eq_some_iff.mp H
         obtain ⟨t190,A260,H⟩ := H
         try dsimp only at H
         have A26 := Aside0.mk A260
         clear A260
         by_cases c27 : t190 = true
         ·subst c27
          rw [if_pos rfl] at H
          by_cases c28 : a0_4 = a0_2
          ·rw [if_pos c28] at H
           have c28b0 : (a0_4 == a0_2) = true := beq_iff_eq.mpr c28
           have c28b1 : (a0_4 != a0_2) = false := bne_eq_false_iff_eq.mpr c28
           clear c28
           rename_i zp1_1 zp1_2 zp1_3 zp1_4 zp1_5 zp1_6 zp1_7 zp1_8 zp1_9; revert k a0_0 a0_1 a0_2 a0_3 a0_4 a0_5 a0_6 a0_7 a0_8 A0_9 c0_9 l0_9 a0_10 a0_11 a0_12 a0_13 a0_14 a0_15 r w hu51 hu84 hu47 hu49 HR0_9 HC0_9 zp1_1 gb181 w2 zp1_2 zp1_3 GW181 GE181 zp1_4 zp1_5 wr u2 u4 u6 u7 u8 u9 u10 u11 u12 u13 u14 u15 u16 u17 u18 u19 u20 u21 u22 u23 u24 u25 u26 u27 u28 zp1_6 zp1_7 zp1_8 x3_1 BK181 HB k1 zp1_9 HK1 c3b0 A18 A20 t188 A22 A23 A17 H A26 c28b0 c28b1; exact hm_.out
          ·rw [if_neg c28] at H
           have c28b0 : (a0_4 == a0_2) = false := beq_eq_false_iff_ne.mpr c28
           have c28b1 : (a0_4 != a0_2) = true := bne_iff_ne.mpr c28
           obtain rfl := Option.some.inj H
           have hcz68_0 : wr.cell? ⟨gb181,0,none⟩ = some (.int .i64 a0_0) := (blk_cell BK181.out 0).trans rfl
           have hcz68_1 : wr.cell? ⟨gb181,1,none⟩ = some (.int .i64 a0_1) := (blk_cell BK181.out 1).trans rfl
           have hcz68_2 : wr.cell? ⟨gb181,2,none⟩ = some (.int .i64 a0_2) := (blk_cell BK181.out 2).trans rfl
           have hcz68_3 : wr.cell? ⟨gb181,3,none⟩ = some (.int .i64 a0_3) := (blk_cell BK181.out 3).trans rfl
           have hcz68_4 : wr.cell? ⟨gb181,4,none⟩ = some (.int .i64 a0_4) := (blk_cell BK181.out 4).trans rfl
           have hcz68_5 : wr.cell? ⟨gb181,5,none⟩ = some (.int .i64 a0_5) := (blk_cell BK181.out 5).trans rfl
           have hcz68_6 : wr.cell? ⟨gb181,6,none⟩ = some (.int .i64 a0_6) := (blk_cell BK181.out 6).trans rfl
           have hcz68_7 : wr.cell? ⟨gb181,7,none⟩ = some (.int .i64 a0_7) := (blk_cell BK181.out 7).trans rfl
           have hcz68_8 : wr.cell? ⟨gb181,8,none⟩ = some (.string a0_8) := (blk_cell BK181.out 8).trans rfl
           have hcz68_9 : wr.cell? ⟨gb181,9,none⟩ = some (.slice A0_9 l0_9.length c0_9) := (blk_cell BK181.out 9).trans rfl
           have hcz68_10 : wr.cell? ⟨gb181,10,none⟩ = some (.int .i64 a0_10) := (blk_cell BK181.out 10).trans rfl
           have hcz68_11 : wr.cell? ⟨gb181,11,none⟩ = some (.int .i64 a0_11) := (blk_cell BK181.out 11).trans rfl
           have hcz68_12 : wr.cell? ⟨gb181,12,none⟩ = some (.int .i64 a0_12) := (blk_cell BK181.out 12).trans rfl
           have hcz68_13 : wr.cell? ⟨gb181,13,none⟩ = some (.int .i64 a0_13) := (blk_cell BK181.out 13).trans rfl
           have hcz68_14 : wr.cell? ⟨gb181,14,none⟩ = some (.int .i64 a0_14) := (blk_cell BK181.out 14).trans rfl
           have hcz68_15 : wr.cell? ⟨gb181,15,none⟩ = some (.int .i64 a0_15) := (blk_cell BK181.out 15).trans rfl
           have hfz68_0 := blk_frozen BK181.out 0
           have hfz68_1 := blk_frozen BK181.out 1
           have hfz68_2 := blk_frozen BK181.out 2
           have hfz68_3 := blk_frozen BK181.out 3
           have hfz68_4 := blk_frozen BK181.out 4
           have hfz68_5 := blk_frozen BK181.out 5
           have hfz68_6 := blk_frozen BK181.out 6
           have hfz68_7 := blk_frozen BK181.out 7
           have hfz68_8 := blk_frozen BK181.out 8
           have hfz68_9 := blk_frozen BK181.out 9
           have hfz68_10 := blk_frozen BK181.out 10
           have hfz68_11 := blk_frozen BK181.out 11
           have hfz68_12 := blk_frozen BK181.out 12
           have hfz68_13 := blk_frozen BK181.out 13
           have hfz68_14 := blk_frozen BK181.out 14
           have hfz68_15 := blk_frozen BK181.out 15
           try go_wp2_with (first | ((with_reducible refine gate_callee (f:=46) rfl ?_); refine goesL_ (some 31) rfl rfl Tryd.func46 (by kernel_rfl) rfl #[.int .i64 a0_1,.int .i64 4,.int .i64 6] rfl mA ?_; (with_reducible refine (spec_l01In.calls a0_1 4 6 true _ A17.out).mono ?_); rintro e w' ⟨rfl,⟨nd,rfl⟩⟩; refine ⟨_,rfl,?_⟩))
           (try (rw [drewN_self wr]; generalize hq_ : World.drewN wr _ = wr; have n0_ : Aside0 (wr.heap[gb181]? = some (.cells #[.int .i64 a0_0,.int .i64 a0_1,.int .i64 a0_2,.int .i64 a0_3,.int .i64 a0_4,.int .i64 a0_5,.int .i64 a0_6,.int .i64 a0_7,.string a0_8,.slice A0_9 l0_9.length c0_9,.int .i64 a0_10,.int .i64 a0_11,.int .i64 a0_12,.int .i64 a0_13,.int .i64 a0_14,.int .i64 a0_15] 51 (0,0))) := ⟨by rw [← hq_]; exact (kA BK181.out)⟩; have n1_ : Aside0 (Below w.heap.size w wr) := ⟨by rw [← hq_]; exact bA⟩; clear BK181 HB hq_; have BK181 := n0_; have HB := n1_; clear n0_ n1_))
           have n0_ := Aside0.mk (blk_drew BK181.out)
           have n1_ := Aside0.mk (below_drew1 HB.out)
           clear BK181
           clear HB
           have BK181 := n0_
           have HB := n1_
           clear n0_ n1_
           refine start_ (n:=69) (S:=fun w' => w'.cell? ⟨gb181,0,none⟩ = some (.int .i64 a0_0) ∧ w'.cell? ⟨gb181,1,none⟩ = some (.int .i64 a0_1) ∧ w'.cell? ⟨gb181,2,none⟩ = some (.int .i64 a0_2) ∧ w'.cell? ⟨gb181,3,none⟩ = some (.int .i64 a0_3) ∧ w'.cell? ⟨gb181,4,none⟩ = some (.int .i64 a0_4) ∧ w'.cell? ⟨gb181,5,none⟩ = some (.int .i64 a0_5) ∧ w'.cell? ⟨gb181,6,none⟩ = some (.int .i64 a0_6) ∧ w'.cell? ⟨gb181,7,none⟩ = some (.int .i64 a0_7) ∧ w'.cell? ⟨gb181,8,none⟩ = some (.string a0_8) ∧ w'.cell? ⟨gb181,9,none⟩ = some (.slice A0_9 l0_9.length c0_9) ∧ w'.cell? ⟨gb181,10,none⟩ = some (.int .i64 a0_10) ∧ w'.cell? ⟨gb181,11,none⟩ = some (.int .i64 a0_11) ∧ w'.cell? ⟨gb181,12,none⟩ = some (.int .i64 a0_12) ∧ w'.cell? ⟨gb181,13,none⟩ = some (.int .i64 a0_13) ∧ w'.cell? ⟨gb181,14,none⟩ = some (.int .i64 a0_14) ∧ w'.cell? ⟨gb181,15,none⟩ = some (.int .i64 a0_15)) (ds := []) (bm 69 0) (by kernel_rfl) rfl rfl ⟨(blk_cell BK181.out 0).trans rfl,(blk_cell BK181.out 1).trans rfl,(blk_cell BK181.out 2).trans rfl,(blk_cell BK181.out 3).trans rfl,(blk_cell BK181.out 4).trans rfl,(blk_cell BK181.out 5).trans rfl,(blk_cell BK181.out 6).trans rfl,(blk_cell BK181.out 7).trans rfl,(blk_cell BK181.out 8).trans rfl,(blk_cell BK181.out 9).trans rfl,(blk_cell BK181.out 10).trans rfl,(blk_cell BK181.out 11).trans rfl,(blk_cell BK181.out 12).trans rfl,(blk_cell BK181.out 13).trans rfl,(blk_cell BK181.out 14).trans rfl,(blk_cell BK181.out 15).trans rfl⟩ (fun hHeld => ?_); refine with_tabW spec_WorkerOK.tab8 spec_WorkerOK.bits8 (fun HT_ HW_ => ?_)
           generalize wr.drew = w69 at BK181 HB hHeld ⊢
           refine pV_ 0 32 (bm 69 1) HT_.out ?_
           refine take_ (i:=1) (N:=some 33) (v:=?_) (a':=?_) (bm 69 3) rfl rfl (take_ofW HT_.out HW_.out (by kernel_rfl)) (fun _ _ _ h => h) (Or.inl ⟨by rfl,?_⟩) hHeld ?_ ?_
           rotate_left
           ·rintro w' ⟨s0,s1,s2,s3,s4,s5,s6,s7,s8,s9,s10,s11,s12,s13,s14,s15⟩
            go_simp
            with_reducible rfl
           rotate_left
           ·simp only [Act.put,setIfInBounds_toArray,set_cons_zero,set_cons_succ,i64_w,i32_w]
            rfl
           refine one_ (i:=2) (N:=some 34) (bm 69 7) rfl rfl (one_of HT_.out (by kernel_rfl)) (by decide) (fun K hK => ?_)
           refine goes_ Tryd.func46 (by kernel_rfl) rfl #[.int .i64 a0_0,.int .i64 0,.int .i64 9] (by rfl) rfl rfl mA ?_
           with_reducible refine (spec_l01In.calls a0_0 0 9 true _ A18.out).mono ?_
           rintro e w' ⟨rfl,⟨nd,rfl⟩⟩
           refine ⟨_,rfl,?_⟩
           refine hK.out _ _ ⟨(blk_cell BK181.out 0).trans rfl,(blk_cell BK181.out 1).trans rfl,(blk_cell BK181.out 2).trans rfl,(blk_cell BK181.out 3).trans rfl,(blk_cell BK181.out 4).trans rfl,(blk_cell BK181.out 5).trans rfl,(blk_cell BK181.out 6).trans rfl,(blk_cell BK181.out 7).trans rfl,(blk_cell BK181.out 8).trans rfl,(blk_cell BK181.out 9).trans rfl,(blk_cell BK181.out 10).trans rfl,(blk_cell BK181.out 11).trans rfl,(blk_cell BK181.out 12).trans rfl,(blk_cell BK181.out 13).trans rfl,(blk_cell BK181.out 14).trans rfl,(blk_cell BK181.out 15).trans rfl⟩ (fun hHeld => ?_)
           clear hK K
           refine norm_ (a':=?_) ?_ ?_
           rotate_left
           ·show Act.put _ (some 34) _ = _
            simp only [Act.put,setIfInBounds_toArray,set_cons_zero,set_cons_succ,i64_w,i32_w]
            rfl
           refine pV_ 3 35 (bm 69 15) HT_.out ?_
           refine pV_ 4 36 (bm 69 31) HT_.out ?_
           refine take_ (i:=5) (N:=some 37) (v:=?_) (a':=?_) (bm 69 63) rfl rfl (take_ofW HT_.out HW_.out (by kernel_rfl)) (fun _ _ _ h => h) (Or.inl ⟨by rfl,?_⟩) hHeld ?_ ?_
           rotate_left
           ·rintro w' ⟨s0,s1,s2,s3,s4,s5,s6,s7,s8,s9,s10,s11,s12,s13,s14,s15⟩
            go_simp
            with_reducible rfl
           rotate_left
           ·simp only [Act.put,setIfInBounds_toArray,set_cons_zero,set_cons_succ,i64_w,i32_w]
            rfl
           refine one_ (i:=6) (N:=some 38) (bm 69 127) rfl rfl (one_of HT_.out (by kernel_rfl)) (by decide) (fun K hK => ?_)
           refine goes_ Tryd.func46 (by kernel_rfl) rfl #[.int .i64 a0_1,.int .i64 0,.int .i64 7] (by rfl) rfl rfl mA ?_
           with_reducible refine (spec_l01In.calls a0_1 0 7 true _ A20.out).mono ?_
           rintro e w' ⟨rfl,⟨nd,rfl⟩⟩
           refine ⟨_,rfl,?_⟩
           refine hK.out _ _ ⟨(blk_cell BK181.out 0).trans rfl,(blk_cell BK181.out 1).trans rfl,(blk_cell BK181.out 2).trans rfl,(blk_cell BK181.out 3).trans rfl,(blk_cell BK181.out 4).trans rfl,(blk_cell BK181.out 5).trans rfl,(blk_cell BK181.out 6).trans rfl,(blk_cell BK181.out 7).trans rfl,(blk_cell BK181.out 8).trans rfl,(blk_cell BK181.out 9).trans rfl,(blk_cell BK181.out 10).trans rfl,(blk_cell BK181.out 11).trans rfl,(blk_cell BK181.out 12).trans rfl,(blk_cell BK181.out 13).trans rfl,(blk_cell BK181.out 14).trans rfl,(blk_cell BK181.out 15).trans rfl⟩ (fun hHeld => ?_)
           clear hK K
           refine norm_ (a':=?_) ?_ ?_
           rotate_left
           ·show Act.put _ (some 38) _ = _
            simp only [Act.put,setIfInBounds_toArray,set_cons_zero,set_cons_succ,i64_w,i32_w]
            rfl
           refine pV_ 7 39 (bm 69 255) HT_.out ?_
           refine pV_ 8 40 (bm 69 511) HT_.out ?_
           refine pV_ 9 41 (bm 69 1023) HT_.out ?_
           refine pV_ 11 43 (bm 69 3071) HT_.out ?_
           refine take_ (i:=10) (N:=some 42) (v:=?_) (a':=?_) (bm 69 4095) rfl rfl (take_ofW HT_.out HW_.out (by kernel_rfl)) (fun _ _ _ h => h) (Or.inl ⟨by rfl,?_⟩) hHeld ?_ ?_
           rotate_left
           ·rintro w' ⟨s0,s1,s2,s3,s4,s5,s6,s7,s8,s9,s10,s11,s12,s13,s14,s15⟩
            go_simp
            with_reducible rfl
           rotate_left
           ·simp only [Act.put,setIfInBounds_toArray,set_cons_zero,set_cons_succ,i64_w,i32_w]
            rfl
           refine take_ (i:=12) (N:=some 44) (v:=?_) (a':=?_) (bm 69 8191) rfl rfl (take_ofW HT_.out HW_.out (by kernel_rfl)) (fun _ _ _ h => h) (Or.inl ⟨by rfl,?_⟩) hHeld ?_ ?_
           rotate_left
           ·rintro w' ⟨s0,s1,s2,s3,s4,s5,s6,s7,s8,s9,s10,s11,s12,s13,s14,s15⟩
            go_simp
            with_reducible rfl
           rotate_left
           ·simp only [Act.put,setIfInBounds_toArray,set_cons_zero,set_cons_succ,i64_w,i32_w]
            rfl
           refine pV_ 13 45 (bm 69 16383) HT_.out ?_
           refine one_ (i:=14) (N:=some 46) (bm 69 32767) rfl rfl (one_of HT_.out (by kernel_rfl)) (by decide) (fun K hK => ?_)
           refine goes_ Tryd.func47 (by kernel_rfl) rfl #[.bool (decide (a0_1 > 1))] (by rfl) rfl rfl mA ?_
           with_reducible refine (spec_l01Bit.calls (decide (a0_1 > 1)) t188 _ A22.out).mono ?_
           rintro e w' ⟨rfl,⟨nd,rfl⟩⟩
           refine ⟨_,rfl,?_⟩
           refine hK.out _ _ ⟨(blk_cell BK181.out 0).trans rfl,(blk_cell BK181.out 1).trans rfl,(blk_cell BK181.out 2).trans rfl,(blk_cell BK181.out 3).trans rfl,(blk_cell BK181.out 4).trans rfl,(blk_cell BK181.out 5).trans rfl,(blk_cell BK181.out 6).trans rfl,(blk_cell BK181.out 7).trans rfl,(blk_cell BK181.out 8).trans rfl,(blk_cell BK181.out 9).trans rfl,(blk_cell BK181.out 10).trans rfl,(blk_cell BK181.out 11).trans rfl,(blk_cell BK181.out 12).trans rfl,(blk_cell BK181.out 13).trans rfl,(blk_cell BK181.out 14).trans rfl,(blk_cell BK181.out 15).trans rfl⟩ (fun hHeld => ?_)
           clear hK K
           refine norm_ (a':=?_) ?_ ?_
           rotate_left
           ·show Act.put _ (some 46) _ = _
            simp only [Act.put,setIfInBounds_toArray,set_cons_zero,set_cons_succ,i64_w,i32_w]
            rfl
           refine one_ (i:=15) (N:=some 47) (bm 69 65535) rfl rfl (one_of HT_.out (by kernel_rfl)) (by decide) (fun K hK => ?_)
           refine goes_ Tryd.func46 (by kernel_rfl) rfl #[.int .i64 a0_2,.int .i64 t188,.int .i64 999999] (by rfl) rfl rfl mA ?_
           with_reducible refine (spec_l01In.calls a0_2 t188 999999 true _ A23.out).mono ?_
           rintro e w' ⟨rfl,⟨nd,rfl⟩⟩
           refine ⟨_,rfl,?_⟩
           refine hK.out _ _ ⟨(blk_cell BK181.out 0).trans rfl,(blk_cell BK181.out 1).trans rfl,(blk_cell BK181.out 2).trans rfl,(blk_cell BK181.out 3).trans rfl,(blk_cell BK181.out 4).trans rfl,(blk_cell BK181.out 5).trans rfl,(blk_cell BK181.out 6).trans rfl,(blk_cell BK181.out 7).trans rfl,(blk_cell BK181.out 8).trans rfl,(blk_cell BK181.out 9).trans rfl,(blk_cell BK181.out 10).trans rfl,(blk_cell BK181.out 11).trans rfl,(blk_cell BK181.out 12).trans rfl,(blk_cell BK181.out 13).trans rfl,(blk_cell BK181.out 14).trans rfl,(blk_cell BK181.out 15).trans rfl⟩ (fun hHeld => ?_)
           clear hK K
           refine norm_ (a':=?_) ?_ ?_
           rotate_left
           ·show Act.put _ (some 47) _ = _
            simp only [Act.put,setIfInBounds_toArray,set_cons_zero,set_cons_succ,i64_w,i32_w]
            rfl
           refine pV_ 16 48 (bm 69 131071) HT_.out ?_
           refine pV_ 17 49 (bm 69 262143) HT_.out ?_
           refine pV_ 18 50 (bm 69 524287) HT_.out ?_
           refine pV_ 19 51 (bm 69 1048575) HT_.out ?_
           refine pV_ 20 52 (bm 69 2097151) HT_.out ?_
           refine pV_ 21 53 (bm 69 4194303) HT_.out ?_
           refine take_ (i:=22) (N:=some 54) (v:=?_) (a':=?_) (bm 69 8388607) rfl rfl (take_ofW HT_.out HW_.out (by kernel_rfl)) (fun _ _ _ h => h) (Or.inl ⟨by rfl,?_⟩) hHeld ?_ ?_
           rotate_left
           ·rintro w' ⟨s0,s1,s2,s3,s4,s5,s6,s7,s8,s9,s10,s11,s12,s13,s14,s15⟩
            go_simp
            with_reducible rfl
           rotate_left
           ·simp only [Act.put,setIfInBounds_toArray,set_cons_zero,set_cons_succ,i64_w,i32_w]
            rfl
           refine one_ (i:=23) (N:=some 55) (bm 69 16777215) rfl rfl (one_of HT_.out (by kernel_rfl)) (by decide) (fun K hK => ?_)
           refine goes_ Tryd.func48 (by kernel_rfl) rfl #[.agg #[.int .i64 a0_3,.int .i64 a0_4,.int .i64 a0_5,.int .i64 a0_6,.int .i64 a0_7,.string a0_8]] (by rfl) rfl rfl mA ?_
           with_reducible refine (spec_RecordOK.calls k1 a0_3 a0_4 a0_5 a0_6 a0_7 a0_8 true _ A26.out).mono ?_
           rintro e w70 ⟨rfl,hb⟩
           refine ⟨_,rfl,?_⟩
           have n0_ := Aside0.mk (blk_below (g:=gb181) (o:=.cells #[.int .i64 a0_0,.int .i64 a0_1,.int .i64 a0_2,.int .i64 a0_3,.int .i64 a0_4,.int .i64 a0_5,.int .i64 a0_6,.int .i64 a0_7,.string a0_8,.slice A0_9 l0_9.length c0_9,.int .i64 a0_10,.int .i64 a0_11,.int .i64 a0_12,.int .i64 a0_13,.int .i64 a0_14,.int .i64 a0_15] 51 (0,0)) (kA BK181.out) hb)
           have n1_ := Aside0.mk (below_step bA hb)
           clear BK181
           clear HB
           have BK181 := n0_
           have HB := n1_
           clear n0_ n1_
           (try clear hb)
           (try clear hb2)
           (try clear hk)
           (try clear hi)
           refine hK.out _ _ ⟨(blk_cell BK181.out 0).trans rfl,(blk_cell BK181.out 1).trans rfl,(blk_cell BK181.out 2).trans rfl,(blk_cell BK181.out 3).trans rfl,(blk_cell BK181.out 4).trans rfl,(blk_cell BK181.out 5).trans rfl,(blk_cell BK181.out 6).trans rfl,(blk_cell BK181.out 7).trans rfl,(blk_cell BK181.out 8).trans rfl,(blk_cell BK181.out 9).trans rfl,(blk_cell BK181.out 10).trans rfl,(blk_cell BK181.out 11).trans rfl,(blk_cell BK181.out 12).trans rfl,(blk_cell BK181.out 13).trans rfl,(blk_cell BK181.out 14).trans rfl,(blk_cell BK181.out 15).trans rfl⟩ (fun hHeld => ?_)
           clear hK K
           refine norm_ (a':=?_) ?_ ?_
           rotate_left
           ·show Act.put _ (some 55) _ = _
            simp only [Act.put,setIfInBounds_toArray,set_cons_zero,set_cons_succ,i64_w,i32_w]
            rfl
           refine pV_ 24 56 (bm 69 33554431) HT_.out ?_
           refine pV_ 25 57 (bm 69 67108863) HT_.out ?_
           refine pV_ 26 58 (bm 69 134217727) HT_.out ?_
           refine pV_ 28 60 (bm 69 402653183) HT_.out ?_
           refine take_ (i:=27) (N:=some 59) (v:=?_) (a':=?_) (bm 69 536870911) rfl rfl (take_ofW HT_.out HW_.out (by kernel_rfl)) (fun _ _ _ h => h) (Or.inl ⟨by rfl,?_⟩) hHeld ?_ ?_
           rotate_left
           ·rintro w' ⟨s0,s1,s2,s3,s4,s5,s6,s7,s8,s9,s10,s11,s12,s13,s14,s15⟩
            go_simp
            with_reducible rfl
           rotate_left
           ·simp only [Act.put,setIfInBounds_toArray,set_cons_zero,set_cons_succ,i64_w,i32_w]
            rfl
           refine take_ (i:=29) (N:=some 61) (v:=?_) (a':=?_) (bm 69 1073741823) rfl rfl (take_ofW HT_.out HW_.out (by kernel_rfl)) (fun _ _ _ h => h) (Or.inl ⟨by rfl,?_⟩) hHeld ?_ ?_
           rotate_left
           ·rintro w' ⟨s0,s1,s2,s3,s4,s5,s6,s7,s8,s9,s10,s11,s12,s13,s14,s15⟩
            go_simp
            with_reducible rfl
           rotate_left
           ·simp only [Act.put,setIfInBounds_toArray,set_cons_zero,set_cons_succ,i64_w,i32_w]
            rfl
           refine pV_ 30 62 (bm 69 2147483647) HT_.out ?_
           refine pV_ 31 63 (bm 69 4294967295) HT_.out ?_
           refine pV_ 32 64 (bm 69 8589934591) HT_.out ?_
           refine pU_ 33 65 (bm 69 17179869183) HT_.out ?_
           refine pU_ 34 66 (bm 69 34359738367) HT_.out ?_
           refine pU_ 35 67 (bm 69 68719476735) HT_.out ?_
           refine pU_ 36 68 (bm 69 137438953471) HT_.out ?_
           refine pU_ 37 69 (bm 69 274877906943) HT_.out ?_
           refine pU_ 38 70 (bm 69 549755813887) HT_.out ?_
           refine pU_ 39 71 (bm 69 1099511627775) HT_.out ?_
           refine pU_ 40 72 (bm 69 2199023255551) HT_.out ?_
           refine pU_ 41 73 (bm 69 4398046511103) HT_.out ?_
           refine pU_ 42 74 (bm 69 8796093022207) HT_.out ?_
           refine pU_ 43 75 (bm 69 17592186044415) HT_.out ?_
           refine pU_ 44 76 (bm 69 35184372088831) HT_.out ?_
           refine pU_ 45 77 (bm 69 70368744177663) HT_.out ?_
           refine pU_ 46 78 (bm 69 140737488355327) HT_.out ?_
           refine pU_ 47 79 (bm 69 281474976710655) HT_.out ?_
           refine pV_ 48 80 (bm 69 562949953421311) HT_.out ?_
           refine pV_ 49 81 (bm 69 1125899906842623) HT_.out ?_
           refine pV_ 50 82 (bm 69 2251799813685247) HT_.out ?_
           refine pV_ 51 83 (bm 69 4503599627370495) HT_.out ?_
           refine pU_ 52 84 (bm 69 9007199254740991) HT_.out ?_
           refine pU_ 53 85 (bm 69 18014398509481983) HT_.out ?_
           refine pU_ 54 86 (bm 69 36028797018963967) HT_.out ?_
           refine pV_ 55 87 (bm 69 72057594037927935) HT_.out ?_
           refine pV_ 56 88 (bm 69 144115188075855871) HT_.out ?_
           refine pU_ 57 89 (bm 69 288230376151711743) HT_.out ?_
           refine pU_ 58 90 (bm 69 576460752303423487) HT_.out ?_
           refine pU_ 59 91 (bm 69 1152921504606846975) HT_.out ?_
           refine pU_ 60 92 (bm 69 2305843009213693951) HT_.out ?_
           refine pV_ 61 93 (bm 69 4611686018427387903) HT_.out ?_
           refine pV_ 62 94 (bm 69 9223372036854775807) HT_.out ?_
           refine pU_ 63 95 (bm 69 18446744073709551615) HT_.out ?_
           refine pU_ 64 96 (bm 69 36893488147419103231) HT_.out ?_
           refine pU_ 65 97 (bm 69 73786976294838206463) HT_.out ?_
           refine pU_ 66 98 (bm 69 147573952589676412927) HT_.out ?_
           refine pV_ 67 99 (bm 69 295147905179352825855) HT_.out ?_
           refine pV_ 68 2 (bm 69 590295810358705651711) HT_.out ?_
           refine done_ (done_of HT_.out (by kernel_rfl)) ?_
           try go_wp2
           go_ret
           exact ⟨by first | rfl | (simp only [i64_w,i32_w] <;> rfl) | (simp [errW_none,errW_some] <;> rfl) | (simp [*,errW_none,errW_some] <;> rfl),bA⟩
         ·replace c27 := Bool.eq_false_iff.mpr c27
          subst c27
          rw [if_neg (show ¬ (false = true) by decide)] at H
          obtain rfl := Option.some.inj H
          have hcz71_0 : wr.cell? ⟨gb181,0,none⟩ = some (.int .i64 a0_0) := (blk_cell BK181.out 0).trans rfl
          have hcz71_1 : wr.cell? ⟨gb181,1,none⟩ = some (.int .i64 a0_1) := (blk_cell BK181.out 1).trans rfl
          have hcz71_2 : wr.cell? ⟨gb181,2,none⟩ = some (.int .i64 a0_2) := (blk_cell BK181.out 2).trans rfl
          have hcz71_3 : wr.cell? ⟨gb181,3,none⟩ = some (.int .i64 a0_3) := (blk_cell BK181.out 3).trans rfl
          have hcz71_4 : wr.cell? ⟨gb181,4,none⟩ = some (.int .i64 a0_4) := (blk_cell BK181.out 4).trans rfl
          have hcz71_5 : wr.cell? ⟨gb181,5,none⟩ = some (.int .i64 a0_5) := (blk_cell BK181.out 5).trans rfl
          have hcz71_6 : wr.cell? ⟨gb181,6,none⟩ = some (.int .i64 a0_6) := (blk_cell BK181.out 6).trans rfl
          have hcz71_7 : wr.cell? ⟨gb181,7,none⟩ = some (.int .i64 a0_7) := (blk_cell BK181.out 7).trans rfl
          have hcz71_8 : wr.cell? ⟨gb181,8,none⟩ = some (.string a0_8) := (blk_cell BK181.out 8).trans rfl
          have hcz71_9 : wr.cell? ⟨gb181,9,none⟩ = some (.slice A0_9 l0_9.length c0_9) := (blk_cell BK181.out 9).trans rfl
          have hcz71_10 : wr.cell? ⟨gb181,10,none⟩ = some (.int .i64 a0_10) := (blk_cell BK181.out 10).trans rfl
          have hcz71_11 : wr.cell? ⟨gb181,11,none⟩ = some (.int .i64 a0_11) := (blk_cell BK181.out 11).trans rfl
          have hcz71_12 : wr.cell? ⟨gb181,12,none⟩ = some (.int .i64 a0_12) := (blk_cell BK181.out 12).trans rfl
          have hcz71_13 : wr.cell? ⟨gb181,13,none⟩ = some (.int .i64 a0_13) := (blk_cell BK181.out 13).trans rfl
          have hcz71_14 : wr.cell? ⟨gb181,14,none⟩ = some (.int .i64 a0_14) := (blk_cell BK181.out 14).trans rfl
          have hcz71_15 : wr.cell? ⟨gb181,15,none⟩ = some (.int .i64 a0_15) := (blk_cell BK181.out 15).trans rfl
          have hfz71_0 := blk_frozen BK181.out 0
          have hfz71_1 := blk_frozen BK181.out 1
          have hfz71_2 := blk_frozen BK181.out 2
          have hfz71_3 := blk_frozen BK181.out 3
          have hfz71_4 := blk_frozen BK181.out 4
          have hfz71_5 := blk_frozen BK181.out 5
          have hfz71_6 := blk_frozen BK181.out 6
          have hfz71_7 := blk_frozen BK181.out 7
          have hfz71_8 := blk_frozen BK181.out 8
          have hfz71_9 := blk_frozen BK181.out 9
          have hfz71_10 := blk_frozen BK181.out 10
          have hfz71_11 := blk_frozen BK181.out 11
          have hfz71_12 := blk_frozen BK181.out 12
          have hfz71_13 := blk_frozen BK181.out 13
          have hfz71_14 := blk_frozen BK181.out 14
          have hfz71_15 := blk_frozen BK181.out 15
          try go_wp2_with (first | ((with_reducible refine gate_callee (f:=46) rfl ?_); refine goesL_ (some 31) rfl rfl Tryd.func46 (by kernel_rfl) rfl #[.int .i64 a0_1,.int .i64 4,.int .i64 6] rfl mA ?_; (with_reducible refine (spec_l01In.calls a0_1 4 6 true _ A17.out).mono ?_); rintro e w' ⟨rfl,⟨nd,rfl⟩⟩; refine ⟨_,rfl,?_⟩))
          (try (rw [drewN_self wr]; generalize hq_ : World.drewN wr _ = wr; have n0_ : Aside0 (wr.heap[gb181]? = some (.cells #[.int .i64 a0_0,.int .i64 a0_1,.int .i64 a0_2,.int .i64 a0_3,.int .i64 a0_4,.int .i64 a0_5,.int .i64 a0_6,.int .i64 a0_7,.string a0_8,.slice A0_9 l0_9.length c0_9,.int .i64 a0_10,.int .i64 a0_11,.int .i64 a0_12,.int .i64 a0_13,.int .i64 a0_14,.int .i64 a0_15] 51 (0,0))) := ⟨by rw [← hq_]; exact (kA BK181.out)⟩; have n1_ : Aside0 (Below w.heap.size w wr) := ⟨by rw [← hq_]; exact bA⟩; clear BK181 HB hq_; have BK181 := n0_; have HB := n1_; clear n0_ n1_))
          have n0_ := Aside0.mk (blk_drew BK181.out)
          have n1_ := Aside0.mk (below_drew1 HB.out)
          clear BK181
          clear HB
          have BK181 := n0_
          have HB := n1_
          clear n0_ n1_
          refine start_ (n:=69) (S:=fun w' => w'.cell? ⟨gb181,0,none⟩ = some (.int .i64 a0_0) ∧ w'.cell? ⟨gb181,1,none⟩ = some (.int .i64 a0_1) ∧ w'.cell? ⟨gb181,2,none⟩ = some (.int .i64 a0_2) ∧ w'.cell? ⟨gb181,3,none⟩ = some (.int .i64 a0_3) ∧ w'.cell? ⟨gb181,4,none⟩ = some (.int .i64 a0_4) ∧ w'.cell? ⟨gb181,5,none⟩ = some (.int .i64 a0_5) ∧ w'.cell? ⟨gb181,6,none⟩ = some (.int .i64 a0_6) ∧ w'.cell? ⟨gb181,7,none⟩ = some (.int .i64 a0_7) ∧ w'.cell? ⟨gb181,8,none⟩ = some (.string a0_8) ∧ w'.cell? ⟨gb181,9,none⟩ = some (.slice A0_9 l0_9.length c0_9) ∧ w'.cell? ⟨gb181,10,none⟩ = some (.int .i64 a0_10) ∧ w'.cell? ⟨gb181,11,none⟩ = some (.int .i64 a0_11) ∧ w'.cell? ⟨gb181,12,none⟩ = some (.int .i64 a0_12) ∧ w'.cell? ⟨gb181,13,none⟩ = some (.int .i64 a0_13) ∧ w'.cell? ⟨gb181,14,none⟩ = some (.int .i64 a0_14) ∧ w'.cell? ⟨gb181,15,none⟩ = some (.int .i64 a0_15)) (ds := []) (bm 69 0) (by kernel_rfl) rfl rfl ⟨(blk_cell BK181.out 0).trans rfl,(blk_cell BK181.out 1).trans rfl,(blk_cell BK181.out 2).trans rfl,(blk_cell BK181.out 3).trans rfl,(blk_cell BK181.out 4).trans rfl,(blk_cell BK181.out 5).trans rfl,(blk_cell BK181.out 6).trans rfl,(blk_cell BK181.out 7).trans rfl,(blk_cell BK181.out 8).trans rfl,(blk_cell BK181.out 9).trans rfl,(blk_cell BK181.out 10).trans rfl,(blk_cell BK181.out 11).trans rfl,(blk_cell BK181.out 12).trans rfl,(blk_cell BK181.out 13).trans rfl,(blk_cell BK181.out 14).trans rfl,(blk_cell BK181.out 15).trans rfl⟩ (fun hHeld => ?_); refine with_tabW spec_WorkerOK.tab8 spec_WorkerOK.bits8 (fun HT_ HW_ => ?_)
          generalize wr.drew = w72 at BK181 HB hHeld ⊢
          refine pV_ 0 32 (bm 69 1) HT_.out ?_
          refine take_ (i:=1) (N:=some 33) (v:=?_) (a':=?_) (bm 69 3) rfl rfl (take_ofW HT_.out HW_.out (by kernel_rfl)) (fun _ _ _ h => h) (Or.inl ⟨by rfl,?_⟩) hHeld ?_ ?_
          rotate_left
          ·rintro w' ⟨s0,s1,s2,s3,s4,s5,s6,s7,s8,s9,s10,s11,s12,s13,s14,s15⟩
           go_simp
           with_reducible rfl
          rotate_left
          ·simp only [Act.put,setIfInBounds_toArray,set_cons_zero,set_cons_succ,i64_w,i32_w]
           rfl
          refine one_ (i:=2) (N:=some 34) (bm 69 7) rfl rfl (one_of HT_.out (by kernel_rfl)) (by decide) (fun K hK => ?_)
          refine goes_ Tryd.func46 (by kernel_rfl) rfl #[.int .i64 a0_0,.int .i64 0,.int .i64 9] (by rfl) rfl rfl mA ?_
          with_reducible refine (spec_l01In.calls a0_0 0 9 true _ A18.out).mono ?_
          rintro e w' ⟨rfl,⟨nd,rfl⟩⟩
          refine ⟨_,rfl,?_⟩
          refine hK.out _ _ ⟨(blk_cell BK181.out 0).trans rfl,(blk_cell BK181.out 1).trans rfl,(blk_cell BK181.out 2).trans rfl,(blk_cell BK181.out 3).trans rfl,(blk_cell BK181.out 4).trans rfl,(blk_cell BK181.out 5).trans rfl,(blk_cell BK181.out 6).trans rfl,(blk_cell BK181.out 7).trans rfl,(blk_cell BK181.out 8).trans rfl,(blk_cell BK181.out 9).trans rfl,(blk_cell BK181.out 10).trans rfl,(blk_cell BK181.out 11).trans rfl,(blk_cell BK181.out 12).trans rfl,(blk_cell BK181.out 13).trans rfl,(blk_cell BK181.out 14).trans rfl,(blk_cell BK181.out 15).trans rfl⟩ (fun hHeld => ?_)
          clear hK K
          refine norm_ (a':=?_) ?_ ?_
          rotate_left
          ·show Act.put _ (some 34) _ = _
           simp only [Act.put,setIfInBounds_toArray,set_cons_zero,set_cons_succ,i64_w,i32_w]
           rfl
          refine pV_ 3 35 (bm 69 15) HT_.out ?_
          refine pV_ 4 36 (bm 69 31) HT_.out ?_
          refine take_ (i:=5) (N:=some 37) (v:=?_) (a':=?_) (bm 69 63) rfl rfl (take_ofW HT_.out HW_.out (by kernel_rfl)) (fun _ _ _ h => h) (Or.inl ⟨by rfl,?_⟩) hHeld ?_ ?_
          rotate_left
          ·rintro w' ⟨s0,s1,s2,s3,s4,s5,s6,s7,s8,s9,s10,s11,s12,s13,s14,s15⟩
           go_simp
           with_reducible rfl
          rotate_left
          ·simp only [Act.put,setIfInBounds_toArray,set_cons_zero,set_cons_succ,i64_w,i32_w]
           rfl
          refine one_ (i:=6) (N:=some 38) (bm 69 127) rfl rfl (one_of HT_.out (by kernel_rfl)) (by decide) (fun K hK => ?_)
          refine goes_ Tryd.func46 (by kernel_rfl) rfl #[.int .i64 a0_1,.int .i64 0,.int .i64 7] (by rfl) rfl rfl mA ?_
          with_reducible refine (spec_l01In.calls a0_1 0 7 true _ A20.out).mono ?_
          rintro e w' ⟨rfl,⟨nd,rfl⟩⟩
          refine ⟨_,rfl,?_⟩
          refine hK.out _ _ ⟨(blk_cell BK181.out 0).trans rfl,(blk_cell BK181.out 1).trans rfl,(blk_cell BK181.out 2).trans rfl,(blk_cell BK181.out 3).trans rfl,(blk_cell BK181.out 4).trans rfl,(blk_cell BK181.out 5).trans rfl,(blk_cell BK181.out 6).trans rfl,(blk_cell BK181.out 7).trans rfl,(blk_cell BK181.out 8).trans rfl,(blk_cell BK181.out 9).trans rfl,(blk_cell BK181.out 10).trans rfl,(blk_cell BK181.out 11).trans rfl,(blk_cell BK181.out 12).trans rfl,(blk_cell BK181.out 13).trans rfl,(blk_cell BK181.out 14).trans rfl,(blk_cell BK181.out 15).trans rfl⟩ (fun hHeld => ?_)
          clear hK K
          refine norm_ (a':=?_) ?_ ?_
          rotate_left
          ·show Act.put _ (some 38) _ = _
           simp only [Act.put,setIfInBounds_toArray,set_cons_zero,set_cons_succ,i64_w,i32_w]
           rfl
          refine pV_ 7 39 (bm 69 255) HT_.out ?_
          refine pV_ 8 40 (bm 69 511) HT_.out ?_
          refine pV_ 9 41 (bm 69 1023) HT_.out ?_
          refine pV_ 11 43 (bm 69 3071) HT_.out ?_
          refine take_ (i:=10) (N:=some 42) (v:=?_) (a':=?_) (bm 69 4095) rfl rfl (take_ofW HT_.out HW_.out (by kernel_rfl)) (fun _ _ _ h => h) (Or.inl ⟨by rfl,?_⟩) hHeld ?_ ?_
          rotate_left
          ·rintro w' ⟨s0,s1,s2,s3,s4,s5,s6,s7,s8,s9,s10,s11,s12,s13,s14,s15⟩
           go_simp
           with_reducible rfl
          rotate_left
          ·simp only [Act.put,setIfInBounds_toArray,set_cons_zero,set_cons_succ,i64_w,i32_w]
           rfl
          refine take_ (i:=12) (N:=some 44) (v:=?_) (a':=?_) (bm 69 8191) rfl rfl (take_ofW HT_.out HW_.out (by kernel_rfl)) (fun _ _ _ h => h) (Or.inl ⟨by rfl,?_⟩) hHeld ?_ ?_
          rotate_left
          ·rintro w' ⟨s0,s1,s2,s3,s4,s5,s6,s7,s8,s9,s10,s11,s12,s13,s14,s15⟩
           go_simp
           with_reducible rfl
          rotate_left
          ·simp only [Act.put,setIfInBounds_toArray,set_cons_zero,set_cons_succ,i64_w,i32_w]
           rfl
          refine pV_ 13 45 (bm 69 16383) HT_.out ?_
          refine one_ (i:=14) (N:=some 46) (bm 69 32767) rfl rfl (one_of HT_.out (by kernel_rfl)) (by decide) (fun K hK => ?_)
          refine goes_ Tryd.func47 (by kernel_rfl) rfl #[.bool (decide (a0_1 > 1))] (by rfl) rfl rfl mA ?_
          with_reducible refine (spec_l01Bit.calls (decide (a0_1 > 1)) t188 _ A22.out).mono ?_
          rintro e w' ⟨rfl,⟨nd,rfl⟩⟩
          refine ⟨_,rfl,?_⟩
          refine hK.out _ _ ⟨(blk_cell BK181.out 0).trans rfl,(blk_cell BK181.out 1).trans rfl,(blk_cell BK181.out 2).trans rfl,(blk_cell BK181.out 3).trans rfl,(blk_cell BK181.out 4).trans rfl,(blk_cell BK181.out 5).trans rfl,(blk_cell BK181.out 6).trans rfl,(blk_cell BK181.out 7).trans rfl,(blk_cell BK181.out 8).trans rfl,(blk_cell BK181.out 9).trans rfl,(blk_cell BK181.out 10).trans rfl,(blk_cell BK181.out 11).trans rfl,(blk_cell BK181.out 12).trans rfl,(blk_cell BK181.out 13).trans rfl,(blk_cell BK181.out 14).trans rfl,(blk_cell BK181.out 15).trans rfl⟩ (fun hHeld => ?_)
          clear hK K
          refine norm_ (a':=?_) ?_ ?_
          rotate_left
          ·show Act.put _ (some 46) _ = _
           simp only [Act.put,setIfInBounds_toArray,set_cons_zero,set_cons_succ,i64_w,i32_w]
           rfl
          refine one_ (i:=15) (N:=some 47) (bm 69 65535) rfl rfl (one_of HT_.out (by kernel_rfl)) (by decide) (fun K hK => ?_)
          refine goes_ Tryd.func46 (by kernel_rfl) rfl #[.int .i64 a0_2,.int .i64 t188,.int .i64 999999] (by rfl) rfl rfl mA ?_
          with_reducible refine (spec_l01In.calls a0_2 t188 999999 true _ A23.out).mono ?_
          rintro e w' ⟨rfl,⟨nd,rfl⟩⟩
          refine ⟨_,rfl,?_⟩
          refine hK.out _ _ ⟨(blk_cell BK181.out 0).trans rfl,(blk_cell BK181.out 1).trans rfl,(blk_cell BK181.out 2).trans rfl,(blk_cell BK181.out 3).trans rfl,(blk_cell BK181.out 4).trans rfl,(blk_cell BK181.out 5).trans rfl,(blk_cell BK181.out 6).trans rfl,(blk_cell BK181.out 7).trans rfl,(blk_cell BK181.out 8).trans rfl,(blk_cell BK181.out 9).trans rfl,(blk_cell BK181.out 10).trans rfl,(blk_cell BK181.out 11).trans rfl,(blk_cell BK181.out 12).trans rfl,(blk_cell BK181.out 13).trans rfl,(blk_cell BK181.out 14).trans rfl,(blk_cell BK181.out 15).trans rfl⟩ (fun hHeld => ?_)
          clear hK K
          refine norm_ (a':=?_) ?_ ?_
          rotate_left
          ·show Act.put _ (some 47) _ = _
           simp only [Act.put,setIfInBounds_toArray,set_cons_zero,set_cons_succ,i64_w,i32_w]
           rfl
          refine pV_ 16 48 (bm 69 131071) HT_.out ?_
          refine pV_ 17 49 (bm 69 262143) HT_.out ?_
          refine pV_ 18 50 (bm 69 524287) HT_.out ?_
          refine pV_ 19 51 (bm 69 1048575) HT_.out ?_
          refine pV_ 20 52 (bm 69 2097151) HT_.out ?_
          refine pV_ 21 53 (bm 69 4194303) HT_.out ?_
          refine take_ (i:=22) (N:=some 54) (v:=?_) (a':=?_) (bm 69 8388607) rfl rfl (take_ofW HT_.out HW_.out (by kernel_rfl)) (fun _ _ _ h => h) (Or.inl ⟨by rfl,?_⟩) hHeld ?_ ?_
          rotate_left
          ·rintro w' ⟨s0,s1,s2,s3,s4,s5,s6,s7,s8,s9,s10,s11,s12,s13,s14,s15⟩
           go_simp
           with_reducible rfl
          rotate_left
          ·simp only [Act.put,setIfInBounds_toArray,set_cons_zero,set_cons_succ,i64_w,i32_w]
           rfl
          refine one_ (i:=23) (N:=some 55) (bm 69 16777215) rfl rfl (one_of HT_.out (by kernel_rfl)) (by decide) (fun K hK => ?_)
          refine goes_ Tryd.func48 (by kernel_rfl) rfl #[.agg #[.int .i64 a0_3,.int .i64 a0_4,.int .i64 a0_5,.int .i64 a0_6,.int .i64 a0_7,.string a0_8]] (by rfl) rfl rfl mA ?_
          with_reducible refine (spec_RecordOK.calls k1 a0_3 a0_4 a0_5 a0_6 a0_7 a0_8 false _ A26.out).mono ?_
          rintro e w73 ⟨rfl,hb⟩
          refine ⟨_,rfl,?_⟩
          have n0_ := Aside0.mk (blk_below (g:=gb181) (o:=.cells #[.int .i64 a0_0,.int .i64 a0_1,.int .i64 a0_2,.int .i64 a0_3,.int .i64 a0_4,.int .i64 a0_5,.int .i64 a0_6,.int .i64 a0_7,.string a0_8,.slice A0_9 l0_9.length c0_9,.int .i64 a0_10,.int .i64 a0_11,.int .i64 a0_12,.int .i64 a0_13,.int .i64 a0_14,.int .i64 a0_15] 51 (0,0)) (kA BK181.out) hb)
          have n1_ := Aside0.mk (below_step bA hb)
          clear BK181
          clear HB
          have BK181 := n0_
          have HB := n1_
          clear n0_ n1_
          (try clear hb)
          (try clear hb2)
          (try clear hk)
          (try clear hi)
          refine hK.out _ _ ⟨(blk_cell BK181.out 0).trans rfl,(blk_cell BK181.out 1).trans rfl,(blk_cell BK181.out 2).trans rfl,(blk_cell BK181.out 3).trans rfl,(blk_cell BK181.out 4).trans rfl,(blk_cell BK181.out 5).trans rfl,(blk_cell BK181.out 6).trans rfl,(blk_cell BK181.out 7).trans rfl,(blk_cell BK181.out 8).trans rfl,(blk_cell BK181.out 9).trans rfl,(blk_cell BK181.out 10).trans rfl,(blk_cell BK181.out 11).trans rfl,(blk_cell BK181.out 12).trans rfl,(blk_cell BK181.out 13).trans rfl,(blk_cell BK181.out 14).trans rfl,(blk_cell BK181.out 15).trans rfl⟩ (fun hHeld => ?_)
          clear hK K
          refine norm_ (a':=?_) ?_ ?_
          rotate_left
          ·show Act.put _ (some 55) _ = _
           simp only [Act.put,setIfInBounds_toArray,set_cons_zero,set_cons_succ,i64_w,i32_w]
           rfl
          refine pV_ 24 56 (bm 69 33554431) HT_.out ?_
          refine pU_ 25 57 (bm 69 67108863) HT_.out ?_
          refine pU_ 26 58 (bm 69 134217727) HT_.out ?_
          refine pU_ 27 59 (bm 69 268435455) HT_.out ?_
          refine pU_ 28 60 (bm 69 536870911) HT_.out ?_
          refine pU_ 29 61 (bm 69 1073741823) HT_.out ?_
          refine pU_ 30 62 (bm 69 2147483647) HT_.out ?_
          refine pV_ 31 63 (bm 69 4294967295) HT_.out ?_
          refine pV_ 32 64 (bm 69 8589934591) HT_.out ?_
          refine pU_ 33 65 (bm 69 17179869183) HT_.out ?_
          refine pU_ 34 66 (bm 69 34359738367) HT_.out ?_
          refine pU_ 35 67 (bm 69 68719476735) HT_.out ?_
          refine pU_ 36 68 (bm 69 137438953471) HT_.out ?_
          refine pU_ 37 69 (bm 69 274877906943) HT_.out ?_
          refine pU_ 38 70 (bm 69 549755813887) HT_.out ?_
          refine pU_ 39 71 (bm 69 1099511627775) HT_.out ?_
          refine pU_ 40 72 (bm 69 2199023255551) HT_.out ?_
          refine pU_ 41 73 (bm 69 4398046511103) HT_.out ?_
          refine pU_ 42 74 (bm 69 8796093022207) HT_.out ?_
          refine pU_ 43 75 (bm 69 17592186044415) HT_.out ?_
          refine pU_ 44 76 (bm 69 35184372088831) HT_.out ?_
          refine pU_ 45 77 (bm 69 70368744177663) HT_.out ?_
          refine pU_ 46 78 (bm 69 140737488355327) HT_.out ?_
          refine pU_ 47 79 (bm 69 281474976710655) HT_.out ?_
          refine pV_ 48 80 (bm 69 562949953421311) HT_.out ?_
          refine pV_ 49 81 (bm 69 1125899906842623) HT_.out ?_
          refine pV_ 50 82 (bm 69 2251799813685247) HT_.out ?_
          refine pV_ 51 83 (bm 69 4503599627370495) HT_.out ?_
          refine pU_ 52 84 (bm 69 9007199254740991) HT_.out ?_
          refine pU_ 53 85 (bm 69 18014398509481983) HT_.out ?_
          refine pU_ 54 86 (bm 69 36028797018963967) HT_.out ?_
          refine pV_ 55 87 (bm 69 72057594037927935) HT_.out ?_
          refine pV_ 56 88 (bm 69 144115188075855871) HT_.out ?_
          refine pU_ 57 89 (bm 69 288230376151711743) HT_.out ?_
          refine pU_ 58 90 (bm 69 576460752303423487) HT_.out ?_
          refine pU_ 59 91 (bm 69 1152921504606846975) HT_.out ?_
          refine pU_ 60 92 (bm 69 2305843009213693951) HT_.out ?_
          refine pV_ 61 93 (bm 69 4611686018427387903) HT_.out ?_
          refine pV_ 62 94 (bm 69 9223372036854775807) HT_.out ?_
          refine pU_ 63 95 (bm 69 18446744073709551615) HT_.out ?_
          refine pU_ 64 96 (bm 69 36893488147419103231) HT_.out ?_
          refine pU_ 65 97 (bm 69 73786976294838206463) HT_.out ?_
          refine pU_ 66 98 (bm 69 147573952589676412927) HT_.out ?_
          refine pV_ 67 99 (bm 69 295147905179352825855) HT_.out ?_
          refine pV_ 68 2 (bm 69 590295810358705651711) HT_.out ?_
          refine done_ (done_of HT_.out (by kernel_rfl)) ?_
          try go_wp2
          go_ret
          exact ⟨by first | rfl | (simp only [i64_w,i32_w] <;> rfl) | (simp [errW_none,errW_some] <;> rfl) | (simp [*,errW_none,errW_some] <;> rfl),bA⟩
        ·replace c25 := Bool.eq_false_iff.mpr c25
         subst c25
         rw [if_neg (show ¬ (false = true) by decide)] at H
         replace H := Option.bind_eq_some_iff.mp H
         obtain ⟨t193,A740,H⟩ := H
         try dsimp only at H
         have A74 := Aside0.mk A740
         clear A740
         by_cases c75 : t193 = true
         ·subst c75
          rw [if_pos rfl] at H
          by_cases c76 : a0_10 ≤ 1000
          ·rw [if_pos c76] at H
           have c76b0 : decide (a0_10 ≤ 1000) = true := decide_eq_true c76
           clear c76
           obtain rfl := Option.some.inj H
           have hcz77_0 : wr.cell? ⟨gb181,0,none⟩ = some (.int .i64 a0_0) := (blk_cell BK181.out 0).trans rfl
           have hcz77_1 : wr.cell? ⟨gb181,1,none⟩ = some (.int .i64 a0_1) := (blk_cell BK181.out 1).trans rfl
           have hcz77_2 : wr.cell? ⟨gb181,2,none⟩ = some (.int .i64 a0_2) := (blk_cell BK181.out 2).trans rfl
           have hcz77_3 : wr.cell? ⟨gb181,3,none⟩ = some (.int .i64 a0_3) := (blk_cell BK181.out 3).trans rfl
           have hcz77_4 : wr.cell? ⟨gb181,4,none⟩ = some (.int .i64 a0_4) := (blk_cell BK181.out 4).trans rfl
           have hcz77_5 : wr.cell? ⟨gb181,5,none⟩ = some (.int .i64 a0_5) := (blk_cell BK181.out 5).trans rfl
           have hcz77_6 : wr.cell? ⟨gb181,6,none⟩ = some (.int .i64 a0_6) := (blk_cell BK181.out 6).trans rfl
           have hcz77_7 : wr.cell? ⟨gb181,7,none⟩ = some (.int .i64 a0_7) := (blk_cell BK181.out 7).trans rfl
           have hcz77_8 : wr.cell? ⟨gb181,8,none⟩ = some (.string a0_8) := (blk_cell BK181.out 8).trans rfl
           have hcz77_9 : wr.cell? ⟨gb181,9,none⟩ = some (.slice A0_9 l0_9.length c0_9) := (blk_cell BK181.out 9).trans rfl
           have hcz77_10 : wr.cell? ⟨gb181,10,none⟩ = some (.int .i64 a0_10) := (blk_cell BK181.out 10).trans rfl
           have hcz77_11 : wr.cell? ⟨gb181,11,none⟩ = some (.int .i64 a0_11) := (blk_cell BK181.out 11).trans rfl
           have hcz77_12 : wr.cell? ⟨gb181,12,none⟩ = some (.int .i64 a0_12) := (blk_cell BK181.out 12).trans rfl
           have hcz77_13 : wr.cell? ⟨gb181,13,none⟩ = some (.int .i64 a0_13) := (blk_cell BK181.out 13).trans rfl
           have hcz77_14 : wr.cell? ⟨gb181,14,none⟩ = some (.int .i64 a0_14) := (blk_cell BK181.out 14).trans rfl
           have hcz77_15 : wr.cell? ⟨gb181,15,none⟩ = some (.int .i64 a0_15) := (blk_cell BK181.out 15).trans rfl
           have hfz77_0 := blk_frozen BK181.out 0
           have hfz77_1 := blk_frozen BK181.out 1
           have hfz77_2 := blk_frozen BK181.out 2
           have hfz77_3 := blk_frozen BK181.out 3
           have hfz77_4 := blk_frozen BK181.out 4
           have hfz77_5 := blk_frozen BK181.out 5
           have hfz77_6 := blk_frozen BK181.out 6
           have hfz77_7 := blk_frozen BK181.out 7
           have hfz77_8 := blk_frozen BK181.out 8
           have hfz77_9 := blk_frozen BK181.out 9
           have hfz77_10 := blk_frozen BK181.out 10
           have hfz77_11 := blk_frozen BK181.out 11
           have hfz77_12 := blk_frozen BK181.out 12
           have hfz77_13 := blk_frozen BK181.out 13
           have hfz77_14 := blk_frozen BK181.out 14
           have hfz77_15 := blk_frozen BK181.out 15
           try go_wp2_with (first | ((with_reducible refine gate_callee (f:=46) rfl ?_); refine goesL_ (some 31) rfl rfl Tryd.func46 (by kernel_rfl) rfl #[.int .i64 a0_1,.int .i64 4,.int .i64 6] rfl mA ?_; (with_reducible refine (spec_l01In.calls a0_1 4 6 false _ A17.out).mono ?_); rintro e w' ⟨rfl,⟨nd,rfl⟩⟩; refine ⟨_,rfl,?_⟩))
           (try (rw [drewN_self wr]; generalize hq_ : World.drewN wr _ = wr; have n0_ : Aside0 (wr.heap[gb181]? = some (.cells #[.int .i64 a0_0,.int .i64 a0_1,.int .i64 a0_2,.int .i64 a0_3,.int .i64 a0_4,.int .i64 a0_5,.int .i64 a0_6,.int .i64 a0_7,.string a0_8,.slice A0_9 l0_9.length c0_9,.int .i64 a0_10,.int .i64 a0_11,.int .i64 a0_12,.int .i64 a0_13,.int .i64 a0_14,.int .i64 a0_15] 51 (0,0))) := ⟨by rw [← hq_]; exact (kA BK181.out)⟩; have n1_ : Aside0 (Below w.heap.size w wr) := ⟨by rw [← hq_]; exact bA⟩; clear BK181 HB hq_; have BK181 := n0_; have HB := n1_; clear n0_ n1_))
           have n0_ := Aside0.mk (blk_drew BK181.out)
           have n1_ := Aside0.mk (below_drew1 HB.out)
           clear BK181
           clear HB
           have BK181 := n0_
           have HB := n1_
           clear n0_ n1_
           refine start_ (n:=69) (S:=fun w' => w'.cell? ⟨gb181,0,none⟩ = some (.int .i64 a0_0) ∧ w'.cell? ⟨gb181,1,none⟩ = some (.int .i64 a0_1) ∧ w'.cell? ⟨gb181,2,none⟩ = some (.int .i64 a0_2) ∧ w'.cell? ⟨gb181,3,none⟩ = some (.int .i64 a0_3) ∧ w'.cell? ⟨gb181,4,none⟩ = some (.int .i64 a0_4) ∧ w'.cell? ⟨gb181,5,none⟩ = some (.int .i64 a0_5) ∧ w'.cell? ⟨gb181,6,none⟩ = some (.int .i64 a0_6) ∧ w'.cell? ⟨gb181,7,none⟩ = some (.int .i64 a0_7) ∧ w'.cell? ⟨gb181,8,none⟩ = some (.string a0_8) ∧ w'.cell? ⟨gb181,9,none⟩ = some (.slice A0_9 l0_9.length c0_9) ∧ w'.cell? ⟨gb181,10,none⟩ = some (.int .i64 a0_10) ∧ w'.cell? ⟨gb181,11,none⟩ = some (.int .i64 a0_11) ∧ w'.cell? ⟨gb181,12,none⟩ = some (.int .i64 a0_12) ∧ w'.cell? ⟨gb181,13,none⟩ = some (.int .i64 a0_13) ∧ w'.cell? ⟨gb181,14,none⟩ = some (.int .i64 a0_14) ∧ w'.cell? ⟨gb181,15,none⟩ = some (.int .i64 a0_15)) (ds := []) (bm 69 0) (by kernel_rfl) rfl rfl ⟨(blk_cell BK181.out 0).trans rfl,(blk_cell BK181.out 1).trans rfl,(blk_cell BK181.out 2).trans rfl,(blk_cell BK181.out 3).trans rfl,(blk_cell BK181.out 4).trans rfl,(blk_cell BK181.out 5).trans rfl,(blk_cell BK181.out 6).trans rfl,(blk_cell BK181.out 7).trans rfl,(blk_cell BK181.out 8).trans rfl,(blk_cell BK181.out 9).trans rfl,(blk_cell BK181.out 10).trans rfl,(blk_cell BK181.out 11).trans rfl,(blk_cell BK181.out 12).trans rfl,(blk_cell BK181.out 13).trans rfl,(blk_cell BK181.out 14).trans rfl,(blk_cell BK181.out 15).trans rfl⟩ (fun hHeld => ?_); refine with_tabW spec_WorkerOK.tab8 spec_WorkerOK.bits8 (fun HT_ HW_ => ?_)
           generalize wr.drew = w78 at BK181 HB hHeld ⊢
           refine pV_ 0 32 (bm 69 1) HT_.out ?_
           refine take_ (i:=1) (N:=some 33) (v:=?_) (a':=?_) (bm 69 3) rfl rfl (take_ofW HT_.out HW_.out (by kernel_rfl)) (fun _ _ _ h => h) (Or.inl ⟨by rfl,?_⟩) hHeld ?_ ?_
           rotate_left
           ·rintro w' ⟨s0,s1,s2,s3,s4,s5,s6,s7,s8,s9,s10,s11,s12,s13,s14,s15⟩
            go_simp
            with_reducible rfl
           rotate_left
           ·simp only [Act.put,setIfInBounds_toArray,set_cons_zero,set_cons_succ,i64_w,i32_w]
            rfl
           refine one_ (i:=2) (N:=some 34) (bm 69 7) rfl rfl (one_of HT_.out (by kernel_rfl)) (by decide) (fun K hK => ?_)
           refine goes_ Tryd.func46 (by kernel_rfl) rfl #[.int .i64 a0_0,.int .i64 0,.int .i64 9] (by rfl) rfl rfl mA ?_
           with_reducible refine (spec_l01In.calls a0_0 0 9 true _ A18.out).mono ?_
           rintro e w' ⟨rfl,⟨nd,rfl⟩⟩
           refine ⟨_,rfl,?_⟩
           refine hK.out _ _ ⟨(blk_cell BK181.out 0).trans rfl,(blk_cell BK181.out 1).trans rfl,(blk_cell BK181.out 2).trans rfl,(blk_cell BK181.out 3).trans rfl,(blk_cell BK181.out 4).trans rfl,(blk_cell BK181.out 5).trans rfl,(blk_cell BK181.out 6).trans rfl,(blk_cell BK181.out 7).trans rfl,(blk_cell BK181.out 8).trans rfl,(blk_cell BK181.out 9).trans rfl,(blk_cell BK181.out 10).trans rfl,(blk_cell BK181.out 11).trans rfl,(blk_cell BK181.out 12).trans rfl,(blk_cell BK181.out 13).trans rfl,(blk_cell BK181.out 14).trans rfl,(blk_cell BK181.out 15).trans rfl⟩ (fun hHeld => ?_)
           clear hK K
           refine norm_ (a':=?_) ?_ ?_
           rotate_left
           ·show Act.put _ (some 34) _ = _
            simp only [Act.put,setIfInBounds_toArray,set_cons_zero,set_cons_succ,i64_w,i32_w]
            rfl
           refine pV_ 3 35 (bm 69 15) HT_.out ?_
           refine pV_ 4 36 (bm 69 31) HT_.out ?_
           refine take_ (i:=5) (N:=some 37) (v:=?_) (a':=?_) (bm 69 63) rfl rfl (take_ofW HT_.out HW_.out (by kernel_rfl)) (fun _ _ _ h => h) (Or.inl ⟨by rfl,?_⟩) hHeld ?_ ?_
           rotate_left
           ·rintro w' ⟨s0,s1,s2,s3,s4,s5,s6,s7,s8,s9,s10,s11,s12,s13,s14,s15⟩
            go_simp
            with_reducible rfl
           rotate_left
           ·simp only [Act.put,setIfInBounds_toArray,set_cons_zero,set_cons_succ,i64_w,i32_w]
            rfl
           refine one_ (i:=6) (N:=some 38) (bm 69 127) rfl rfl (one_of HT_.out (by kernel_rfl)) (by decide) (fun K hK => ?_)
           refine goes_ Tryd.func46 (by kernel_rfl) rfl #[.int .i64 a0_1,.int .i64 0,.int .i64 7] (by rfl) rfl rfl mA ?_
           with_reducible refine (spec_l01In.calls a0_1 0 7 true _ A20.out).mono ?_
           rintro e w' ⟨rfl,⟨nd,rfl⟩⟩
           refine ⟨_,rfl,?_⟩
           refine hK.out _ _ ⟨(blk_cell BK181.out 0).trans rfl,(blk_cell BK181.out 1).trans rfl,(blk_cell BK181.out 2).trans rfl,(blk_cell BK181.out 3).trans rfl,(blk_cell BK181.out 4).trans rfl,(blk_cell BK181.out 5).trans rfl,(blk_cell BK181.out 6).trans rfl,(blk_cell BK181.out 7).trans rfl,(blk_cell BK181.out 8).trans rfl,(blk_cell BK181.out 9).trans rfl,(blk_cell BK181.out 10).trans rfl,(blk_cell BK181.out 11).trans rfl,(blk_cell BK181.out 12).trans rfl,(blk_cell BK181.out 13).trans rfl,(blk_cell BK181.out 14).trans rfl,(blk_cell BK181.out 15).trans rfl⟩ (fun hHeld => ?_)
           clear hK K
           refine norm_ (a':=?_) ?_ ?_
           rotate_left
           ·show Act.put _ (some 38) _ = _
            simp only [Act.put,setIfInBounds_toArray,set_cons_zero,set_cons_succ,i64_w,i32_w]
            rfl
           refine pV_ 7 39 (bm 69 255) HT_.out ?_
           refine pV_ 8 40 (bm 69 511) HT_.out ?_
           refine pV_ 9 41 (bm 69 1023) HT_.out ?_
           refine pV_ 11 43 (bm 69 3071) HT_.out ?_
           refine take_ (i:=10) (N:=some 42) (v:=?_) (a':=?_) (bm 69 4095) rfl rfl (take_ofW HT_.out HW_.out (by kernel_rfl)) (fun _ _ _ h => h) (Or.inl ⟨by rfl,?_⟩) hHeld ?_ ?_
           rotate_left
           ·rintro w' ⟨s0,s1,s2,s3,s4,s5,s6,s7,s8,s9,s10,s11,s12,s13,s14,s15⟩
            go_simp
            with_reducible rfl
           rotate_left
           ·simp only [Act.put,setIfInBounds_toArray,set_cons_zero,set_cons_succ,i64_w,i32_w]
            rfl
           refine take_ (i:=12) (N:=some 44) (v:=?_) (a':=?_) (bm 69 8191) rfl rfl (take_ofW HT_.out HW_.out (by kernel_rfl)) (fun _ _ _ h => h) (Or.inl ⟨by rfl,?_⟩) hHeld ?_ ?_
           rotate_left
           ·rintro w' ⟨s0,s1,s2,s3,s4,s5,s6,s7,s8,s9,s10,s11,s12,s13,s14,s15⟩
            go_simp
            with_reducible rfl
           rotate_left
           ·simp only [Act.put,setIfInBounds_toArray,set_cons_zero,set_cons_succ,i64_w,i32_w]
            rfl
           refine pV_ 13 45 (bm 69 16383) HT_.out ?_
           refine one_ (i:=14) (N:=some 46) (bm 69 32767) rfl rfl (one_of HT_.out (by kernel_rfl)) (by decide) (fun K hK => ?_)
           refine goes_ Tryd.func47 (by kernel_rfl) rfl #[.bool (decide (a0_1 > 1))] (by rfl) rfl rfl mA ?_
           with_reducible refine (spec_l01Bit.calls (decide (a0_1 > 1)) t188 _ A22.out).mono ?_
           rintro e w' ⟨rfl,⟨nd,rfl⟩⟩
           refine ⟨_,rfl,?_⟩
           refine hK.out _ _ ⟨(blk_cell BK181.out 0).trans rfl,(blk_cell BK181.out 1).trans rfl,(blk_cell BK181.out 2).trans rfl,(blk_cell BK181.out 3).trans rfl,(blk_cell BK181.out 4).trans rfl,(blk_cell BK181.out 5).trans rfl,(blk_cell BK181.out 6).trans rfl,(blk_cell BK181.out 7).trans rfl,(blk_cell BK181.out 8).trans rfl,(blk_cell BK181.out 9).trans rfl,(blk_cell BK181.out 10).trans rfl,(blk_cell BK181.out 11).trans rfl,(blk_cell BK181.out 12).trans rfl,(blk_cell BK181.out 13).trans rfl,(blk_cell BK181.out 14).trans rfl,(blk_cell BK181.out 15).trans rfl⟩ (fun hHeld => ?_)
           clear hK K
           refine norm_ (a':=?_) ?_ ?_
           rotate_left
           ·show Act.put _ (some 46) _ = _
            simp only [Act.put,setIfInBounds_toArray,set_cons_zero,set_cons_succ,i64_w,i32_w]
            rfl
           refine one_ (i:=15) (N:=some 47) (bm 69 65535) rfl rfl (one_of HT_.out (by kernel_rfl)) (by decide) (fun K hK => ?_)
           refine goes_ Tryd.func46 (by kernel_rfl) rfl #[.int .i64 a0_2,.int .i64 t188,.int .i64 999999] (by rfl) rfl rfl mA ?_
           with_reducible refine (spec_l01In.calls a0_2 t188 999999 true _ A23.out).mono ?_
           rintro e w' ⟨rfl,⟨nd,rfl⟩⟩
           refine ⟨_,rfl,?_⟩
           refine hK.out _ _ ⟨(blk_cell BK181.out 0).trans rfl,(blk_cell BK181.out 1).trans rfl,(blk_cell BK181.out 2).trans rfl,(blk_cell BK181.out 3).trans rfl,(blk_cell BK181.out 4).trans rfl,(blk_cell BK181.out 5).trans rfl,(blk_cell BK181.out 6).trans rfl,(blk_cell BK181.out 7).trans rfl,(blk_cell BK181.out 8).trans rfl,(blk_cell BK181.out 9).trans rfl,(blk_cell BK181.out 10).trans rfl,(blk_cell BK181.out 11).trans rfl,(blk_cell BK181.out 12).trans rfl,(blk_cell BK181.out 13).trans rfl,(blk_cell BK181.out 14).trans rfl,(blk_cell BK181.out 15).trans rfl⟩ (fun hHeld => ?_)
           clear hK K
           refine norm_ (a':=?_) ?_ ?_
           rotate_left
           ·show Act.put _ (some 47) _ = _
            simp only [Act.put,setIfInBounds_toArray,set_cons_zero,set_cons_succ,i64_w,i32_w]
            rfl
           refine pV_ 16 48 (bm 69 131071) HT_.out ?_
           refine pV_ 17 49 (bm 69 262143) HT_.out ?_
           refine pV_ 18 50 (bm 69 524287) HT_.out ?_
           refine pV_ 19 51 (bm 69 1048575) HT_.out ?_
           refine pV_ 20 52 (bm 69 2097151) HT_.out ?_
           refine pU_ 21 53 (bm 69 4194303) HT_.out ?_
           refine pU_ 22 54 (bm 69 8388607) HT_.out ?_
           refine pU_ 23 55 (bm 69 16777215) HT_.out ?_
           refine pU_ 24 56 (bm 69 33554431) HT_.out ?_
           refine pU_ 25 57 (bm 69 67108863) HT_.out ?_
           refine pU_ 26 58 (bm 69 134217727) HT_.out ?_
           refine pU_ 27 59 (bm 69 268435455) HT_.out ?_
           refine pU_ 28 60 (bm 69 536870911) HT_.out ?_
           refine pU_ 29 61 (bm 69 1073741823) HT_.out ?_
           refine pU_ 30 62 (bm 69 2147483647) HT_.out ?_
           refine pU_ 31 63 (bm 69 4294967295) HT_.out ?_
           refine pU_ 32 64 (bm 69 8589934591) HT_.out ?_
           refine pU_ 33 65 (bm 69 17179869183) HT_.out ?_
           refine pU_ 34 66 (bm 69 34359738367) HT_.out ?_
           refine pU_ 35 67 (bm 69 68719476735) HT_.out ?_
           refine pU_ 36 68 (bm 69 137438953471) HT_.out ?_
           refine pU_ 37 69 (bm 69 274877906943) HT_.out ?_
           refine pU_ 38 70 (bm 69 549755813887) HT_.out ?_
           refine pU_ 39 71 (bm 69 1099511627775) HT_.out ?_
           refine pU_ 40 72 (bm 69 2199023255551) HT_.out ?_
           refine pU_ 41 73 (bm 69 4398046511103) HT_.out ?_
           refine pU_ 42 74 (bm 69 8796093022207) HT_.out ?_
           refine pU_ 43 75 (bm 69 17592186044415) HT_.out ?_
           refine pU_ 44 76 (bm 69 35184372088831) HT_.out ?_
           refine pU_ 45 77 (bm 69 70368744177663) HT_.out ?_
           refine pU_ 46 78 (bm 69 140737488355327) HT_.out ?_
           refine pU_ 47 79 (bm 69 281474976710655) HT_.out ?_
           refine pU_ 48 80 (bm 69 562949953421311) HT_.out ?_
           refine pV_ 49 81 (bm 69 1125899906842623) HT_.out ?_
           refine pV_ 50 82 (bm 69 2251799813685247) HT_.out ?_
           refine pV_ 51 83 (bm 69 4503599627370495) HT_.out ?_
           refine pV_ 52 84 (bm 69 9007199254740991) HT_.out ?_
           refine take_ (i:=53) (N:=some 85) (v:=?_) (a':=?_) (bm 69 18014398509481983) rfl rfl (take_ofW HT_.out HW_.out (by kernel_rfl)) (fun _ _ _ h => h) (Or.inl ⟨by rfl,?_⟩) hHeld ?_ ?_
           rotate_left
           ·rintro w' ⟨s0,s1,s2,s3,s4,s5,s6,s7,s8,s9,s10,s11,s12,s13,s14,s15⟩
            go_simp
            with_reducible rfl
           rotate_left
           ·simp only [Act.put,setIfInBounds_toArray,set_cons_zero,set_cons_succ,i64_w,i32_w]
            rfl
           refine one_ (i:=54) (N:=some 86) (bm 69 36028797018963967) rfl rfl (one_of HT_.out (by kernel_rfl)) (by decide) (fun K hK => ?_)
           refine goes_ Tryd.func49 (by kernel_rfl) rfl #[.agg #[.int .i64 a0_10,.int .i64 a0_11,.int .i64 a0_12,.int .i64 a0_13,.int .i64 a0_14,.int .i64 a0_15]] (by rfl) rfl rfl mA ?_
           with_reducible refine (spec_AggOK.calls a0_10 a0_11 a0_12 a0_13 a0_14 a0_15 true _ A74.out).mono ?_
           rintro e w79 ⟨rfl,hb⟩
           refine ⟨_,rfl,?_⟩
           have n0_ := Aside0.mk (blk_below (g:=gb181) (o:=.cells #[.int .i64 a0_0,.int .i64 a0_1,.int .i64 a0_2,.int .i64 a0_3,.int .i64 a0_4,.int .i64 a0_5,.int .i64 a0_6,.int .i64 a0_7,.string a0_8,.slice A0_9 l0_9.length c0_9,.int .i64 a0_10,.int .i64 a0_11,.int .i64 a0_12,.int .i64 a0_13,.int .i64 a0_14,.int .i64 a0_15] 51 (0,0)) (kA BK181.out) hb)
           have n1_ := Aside0.mk (below_step bA hb)
           clear BK181
           clear HB
           have BK181 := n0_
           have HB := n1_
           clear n0_ n1_
           (try clear hb)
           (try clear hb2)
           (try clear hk)
           (try clear hi)
           refine hK.out _ _ ⟨(blk_cell BK181.out 0).trans rfl,(blk_cell BK181.out 1).trans rfl,(blk_cell BK181.out 2).trans rfl,(blk_cell BK181.out 3).trans rfl,(blk_cell BK181.out 4).trans rfl,(blk_cell BK181.out 5).trans rfl,(blk_cell BK181.out 6).trans rfl,(blk_cell BK181.out 7).trans rfl,(blk_cell BK181.out 8).trans rfl,(blk_cell BK181.out 9).trans rfl,(blk_cell BK181.out 10).trans rfl,(blk_cell BK181.out 11).trans rfl,(blk_cell BK181.out 12).trans rfl,(blk_cell BK181.out 13).trans rfl,(blk_cell BK181.out 14).trans rfl,(blk_cell BK181.out 15).trans rfl⟩ (fun hHeld => ?_)
           clear hK K
           refine norm_ (a':=?_) ?_ ?_
           rotate_left
           ·show Act.put _ (some 86) _ = _
            simp only [Act.put,setIfInBounds_toArray,set_cons_zero,set_cons_succ,i64_w,i32_w]
            rfl
           refine pV_ 55 87 (bm 69 72057594037927935) HT_.out ?_
           refine pV_ 56 88 (bm 69 144115188075855871) HT_.out ?_
           refine pV_ 57 89 (bm 69 288230376151711743) HT_.out ?_
           refine pV_ 58 90 (bm 69 576460752303423487) HT_.out ?_
           refine take_ (i:=59) (N:=some 91) (v:=?_) (a':=?_) (bm 69 1152921504606846975) rfl rfl (take_ofW HT_.out HW_.out (by kernel_rfl)) (fun _ _ _ h => h) (Or.inl ⟨by rfl,?_⟩) hHeld ?_ ?_
           rotate_left
           ·rintro w' ⟨s0,s1,s2,s3,s4,s5,s6,s7,s8,s9,s10,s11,s12,s13,s14,s15⟩
            go_simp
            with_reducible rfl
           rotate_left
           ·simp only [Act.put,setIfInBounds_toArray,set_cons_zero,set_cons_succ,i64_w,i32_w]
            rfl
           refine pV_ 60 92 (bm 69 2305843009213693951) HT_.out ?_
           refine pV_ 61 93 (bm 69 4611686018427387903) HT_.out ?_
           refine pV_ 62 94 (bm 69 9223372036854775807) HT_.out ?_
           refine pV_ 63 95 (bm 69 18446744073709551615) HT_.out ?_
           refine take_ (i:=64) (N:=some 96) (v:=?_) (a':=?_) (bm 69 36893488147419103231) rfl rfl (take_ofW HT_.out HW_.out (by kernel_rfl)) (fun _ _ _ h => h) (Or.inl ⟨by rfl,?_⟩) hHeld ?_ ?_
           rotate_left
           ·rintro w' ⟨s0,s1,s2,s3,s4,s5,s6,s7,s8,s9,s10,s11,s12,s13,s14,s15⟩
            go_simp
            with_reducible rfl
           rotate_left
           ·simp only [Act.put,setIfInBounds_toArray,set_cons_zero,set_cons_succ,i64_w,i32_w]
            rfl
           refine pV_ 65 97 (bm 69 73786976294838206463) HT_.out ?_
           refine pV_ 66 98 (bm 69 147573952589676412927) HT_.out ?_
           refine pV_ 67 99 (bm 69 295147905179352825855) HT_.out ?_
           refine pV_ 68 2 (bm 69 590295810358705651711) HT_.out ?_
           refine done_ (done_of HT_.out (by kernel_rfl)) ?_
           try go_wp2
           go_ret
           exact ⟨by first | rfl | (simp only [i64_w,i32_w] <;> rfl) | (simp [errW_none,errW_some] <;> rfl) | (simp [*,errW_none,errW_some] <;> rfl),bA⟩
          ·rw [if_neg c76] at H
           have c76b0 : decide (a0_10 ≤ 1000) = false := decide_eq_false c76
           clear c76
           obtain rfl := Option.some.inj H
           have hcz80_0 : wr.cell? ⟨gb181,0,none⟩ = some (.int .i64 a0_0) := (blk_cell BK181.out 0).trans rfl
           have hcz80_1 : wr.cell? ⟨gb181,1,none⟩ = some (.int .i64 a0_1) := (blk_cell BK181.out 1).trans rfl
           have hcz80_2 : wr.cell? ⟨gb181,2,none⟩ = some (.int .i64 a0_2) := (blk_cell BK181.out 2).trans rfl
           have hcz80_3 : wr.cell? ⟨gb181,3,none⟩ = some (.int .i64 a0_3) := (blk_cell BK181.out 3).trans rfl
           have hcz80_4 : wr.cell? ⟨gb181,4,none⟩ = some (.int .i64 a0_4) := (blk_cell BK181.out 4).trans rfl
           have hcz80_5 : wr.cell? ⟨gb181,5,none⟩ = some (.int .i64 a0_5) := (blk_cell BK181.out 5).trans rfl
           have hcz80_6 : wr.cell? ⟨gb181,6,none⟩ = some (.int .i64 a0_6) := (blk_cell BK181.out 6).trans rfl
           have hcz80_7 : wr.cell? ⟨gb181,7,none⟩ = some (.int .i64 a0_7) := (blk_cell BK181.out 7).trans rfl
           have hcz80_8 : wr.cell? ⟨gb181,8,none⟩ = some (.string a0_8) := (blk_cell BK181.out 8).trans rfl
           have hcz80_9 : wr.cell? ⟨gb181,9,none⟩ = some (.slice A0_9 l0_9.length c0_9) := (blk_cell BK181.out 9).trans rfl
           have hcz80_10 : wr.cell? ⟨gb181,10,none⟩ = some (.int .i64 a0_10) := (blk_cell BK181.out 10).trans rfl
           have hcz80_11 : wr.cell? ⟨gb181,11,none⟩ = some (.int .i64 a0_11) := (blk_cell BK181.out 11).trans rfl
           have hcz80_12 : wr.cell? ⟨gb181,12,none⟩ = some (.int .i64 a0_12) := (blk_cell BK181.out 12).trans rfl
           have hcz80_13 : wr.cell? ⟨gb181,13,none⟩ = some (.int .i64 a0_13) := (blk_cell BK181.out 13).trans rfl
           have hcz80_14 : wr.cell? ⟨gb181,14,none⟩ = some (.int .i64 a0_14) := (blk_cell BK181.out 14).trans rfl
           have hcz80_15 : wr.cell? ⟨gb181,15,none⟩ = some (.int .i64 a0_15) := (blk_cell BK181.out 15).trans rfl
           have hfz80_0 := blk_frozen BK181.out 0
           have hfz80_1 := blk_frozen BK181.out 1
           have hfz80_2 := blk_frozen BK181.out 2
           have hfz80_3 := blk_frozen BK181.out 3
           have hfz80_4 := blk_frozen BK181.out 4
           have hfz80_5 := blk_frozen BK181.out 5
           have hfz80_6 := blk_frozen BK181.out 6
           have hfz80_7 := blk_frozen BK181.out 7
           have hfz80_8 := blk_frozen BK181.out 8
           have hfz80_9 := blk_frozen BK181.out 9
           have hfz80_10 := blk_frozen BK181.out 10
           have hfz80_11 := blk_frozen BK181.out 11
           have hfz80_12 := blk_frozen BK181.out 12
           have hfz80_13 := blk_frozen BK181.out 13
           have hfz80_14 := blk_frozen BK181.out 14
           have hfz80_15 := blk_frozen BK181.out 15
           try go_wp2_with (first | ((with_reducible refine gate_callee (f:=46) rfl ?_); refine goesL_ (some 31) rfl rfl Tryd.func46 (by kernel_rfl) rfl #[.int .i64 a0_1,.int .i64 4,.int .i64 6] rfl mA ?_; (with_reducible refine (spec_l01In.calls a0_1 4 6 false _ A17.out).mono ?_); rintro e w' ⟨rfl,⟨nd,rfl⟩⟩; refine ⟨_,rfl,?_⟩))
           (try (rw [drewN_self wr]; generalize hq_ : World.drewN wr _ = wr; have n0_ : Aside0 (wr.heap[gb181]? = some (.cells #[.int .i64 a0_0,.int .i64 a0_1,.int .i64 a0_2,.int .i64 a0_3,.int .i64 a0_4,.int .i64 a0_5,.int .i64 a0_6,.int .i64 a0_7,.string a0_8,.slice A0_9 l0_9.length c0_9,.int .i64 a0_10,.int .i64 a0_11,.int .i64 a0_12,.int .i64 a0_13,.int .i64 a0_14,.int .i64 a0_15] 51 (0,0))) := ⟨by rw [← hq_]; exact (kA BK181.out)⟩; have n1_ : Aside0 (Below w.heap.size w wr) := ⟨by rw [← hq_]; exact bA⟩; clear BK181 HB hq_; have BK181 := n0_; have HB := n1_; clear n0_ n1_))
           have n0_ := Aside0.mk (blk_drew BK181.out)
           have n1_ := Aside0.mk (below_drew1 HB.out)
           clear BK181
           clear HB
           have BK181 := n0_
           have HB := n1_
           clear n0_ n1_
           refine start_ (n:=69) (S:=fun w' => w'.cell? ⟨gb181,0,none⟩ = some (.int .i64 a0_0) ∧ w'.cell? ⟨gb181,1,none⟩ = some (.int .i64 a0_1) ∧ w'.cell? ⟨gb181,2,none⟩ = some (.int .i64 a0_2) ∧ w'.cell? ⟨gb181,3,none⟩ = some (.int .i64 a0_3) ∧ w'.cell? ⟨gb181,4,none⟩ = some (.int .i64 a0_4) ∧ w'.cell? ⟨gb181,5,none⟩ = some (.int .i64 a0_5) ∧ w'.cell? ⟨gb181,6,none⟩ = some (.int .i64 a0_6) ∧ w'.cell? ⟨gb181,7,none⟩ = some (.int .i64 a0_7) ∧ w'.cell? ⟨gb181,8,none⟩ = some (.string a0_8) ∧ w'.cell? ⟨gb181,9,none⟩ = some (.slice A0_9 l0_9.length c0_9) ∧ w'.cell? ⟨gb181,10,none⟩ = some (.int .i64 a0_10) ∧ w'.cell? ⟨gb181,11,none⟩ = some (.int .i64 a0_11) ∧ w'.cell? ⟨gb181,12,none⟩ = some (.int .i64 a0_12) ∧ w'.cell? ⟨gb181,13,none⟩ = some (.int .i64 a0_13) ∧ w'.cell? ⟨gb181,14,none⟩ = some (.int .i64 a0_14) ∧ w'.cell? ⟨gb181,15,none⟩ = some (.int .i64 a0_15)) (ds := []) (bm 69 0) (by kernel_rfl) rfl rfl ⟨(blk_cell BK181.out 0).trans rfl,(blk_cell BK181.out 1).trans rfl,(blk_cell BK181.out 2).trans rfl,(blk_cell BK181.out 3).trans rfl,(blk_cell BK181.out 4).trans rfl,(blk_cell BK181.out 5).trans rfl,(blk_cell BK181.out 6).trans rfl,(blk_cell BK181.out 7).trans rfl,(blk_cell BK181.out 8).trans rfl,(blk_cell BK181.out 9).trans rfl,(blk_cell BK181.out 10).trans rfl,(blk_cell BK181.out 11).trans rfl,(blk_cell BK181.out 12).trans rfl,(blk_cell BK181.out 13).trans rfl,(blk_cell BK181.out 14).trans rfl,(blk_cell BK181.out 15).trans rfl⟩ (fun hHeld => ?_); refine with_tabW spec_WorkerOK.tab8 spec_WorkerOK.bits8 (fun HT_ HW_ => ?_)
           generalize wr.drew = w81 at BK181 HB hHeld ⊢
           refine pV_ 0 32 (bm 69 1) HT_.out ?_
           refine take_ (i:=1) (N:=some 33) (v:=?_) (a':=?_) (bm 69 3) rfl rfl (take_ofW HT_.out HW_.out (by kernel_rfl)) (fun _ _ _ h => h) (Or.inl ⟨by rfl,?_⟩) hHeld ?_ ?_
           rotate_left
           ·rintro w' ⟨s0,s1,s2,s3,s4,s5,s6,s7,s8,s9,s10,s11,s12,s13,s14,s15⟩
            go_simp
            with_reducible rfl
           rotate_left
           ·simp only [Act.put,setIfInBounds_toArray,set_cons_zero,set_cons_succ,i64_w,i32_w]
            rfl
           refine one_ (i:=2) (N:=some 34) (bm 69 7) rfl rfl (one_of HT_.out (by kernel_rfl)) (by decide) (fun K hK => ?_)
           refine goes_ Tryd.func46 (by kernel_rfl) rfl #[.int .i64 a0_0,.int .i64 0,.int .i64 9] (by rfl) rfl rfl mA ?_
           with_reducible refine (spec_l01In.calls a0_0 0 9 true _ A18.out).mono ?_
           rintro e w' ⟨rfl,⟨nd,rfl⟩⟩
           refine ⟨_,rfl,?_⟩
           refine hK.out _ _ ⟨(blk_cell BK181.out 0).trans rfl,(blk_cell BK181.out 1).trans rfl,(blk_cell BK181.out 2).trans rfl,(blk_cell BK181.out 3).trans rfl,(blk_cell BK181.out 4).trans rfl,(blk_cell BK181.out 5).trans rfl,(blk_cell BK181.out 6).trans rfl,(blk_cell BK181.out 7).trans rfl,(blk_cell BK181.out 8).trans rfl,(blk_cell BK181.out 9).trans rfl,(blk_cell BK181.out 10).trans rfl,(blk_cell BK181.out 11).trans rfl,(blk_cell BK181.out 12).trans rfl,(blk_cell BK181.out 13).trans rfl,(blk_cell BK181.out 14).trans rfl,(blk_cell BK181.out 15).trans rfl⟩ (fun hHeld => ?_)
           clear hK K
           refine norm_ (a':=?_) ?_ ?_
           rotate_left
           ·show Act.put _ (some 34) _ = _
            simp only [Act.put,setIfInBounds_toArray,set_cons_zero,set_cons_succ,i64_w,i32_w]
            rfl
           refine pV_ 3 35 (bm 69 15) HT_.out ?_
           refine pV_ 4 36 (bm 69 31) HT_.out ?_
           refine take_ (i:=5) (N:=some 37) (v:=?_) (a':=?_) (bm 69 63) rfl rfl (take_ofW HT_.out HW_.out (by kernel_rfl)) (fun _ _ _ h => h) (Or.inl ⟨by rfl,?_⟩) hHeld ?_ ?_
           rotate_left
           ·rintro w' ⟨s0,s1,s2,s3,s4,s5,s6,s7,s8,s9,s10,s11,s12,s13,s14,s15⟩
            go_simp
            with_reducible rfl
           rotate_left
           ·simp only [Act.put,setIfInBounds_toArray,set_cons_zero,set_cons_succ,i64_w,i32_w]
            rfl
           refine one_ (i:=6) (N:=some 38) (bm 69 127) rfl rfl (one_of HT_.out (by kernel_rfl)) (by decide) (fun K hK => ?_)
           refine goes_ Tryd.func46 (by kernel_rfl) rfl #[.int .i64 a0_1,.int .i64 0,.int .i64 7] (by rfl) rfl rfl mA ?_
           with_reducible refine (spec_l01In.calls a0_1 0 7 true _ A20.out).mono ?_
           rintro e w' ⟨rfl,⟨nd,rfl⟩⟩
           refine ⟨_,rfl,?_⟩
           refine hK.out _ _ ⟨(blk_cell BK181.out 0).trans rfl,(blk_cell BK181.out 1).trans rfl,(blk_cell BK181.out 2).trans rfl,(blk_cell BK181.out 3).trans rfl,(blk_cell BK181.out 4).trans rfl,(blk_cell BK181.out 5).trans rfl,(blk_cell BK181.out 6).trans rfl,(blk_cell BK181.out 7).trans rfl,(blk_cell BK181.out 8).trans rfl,(blk_cell BK181.out 9).trans rfl,(blk_cell BK181.out 10).trans rfl,(blk_cell BK181.out 11).trans rfl,(blk_cell BK181.out 12).trans rfl,(blk_cell BK181.out 13).trans rfl,(blk_cell BK181.out 14).trans rfl,(blk_cell BK181.out 15).trans rfl⟩ (fun hHeld => ?_)
           clear hK K
           refine norm_ (a':=?_) ?_ ?_
           rotate_left
           ·show Act.put _ (some 38) _ = _
            simp only [Act.put,setIfInBounds_toArray,set_cons_zero,set_cons_succ,i64_w,i32_w]
            rfl
           refine pV_ 7 39 (bm 69 255) HT_.out ?_
           refine pV_ 8 40 (bm 69 511) HT_.out ?_
           refine pV_ 9 41 (bm 69 1023) HT_.out ?_
           refine pV_ 11 43 (bm 69 3071) HT_.out ?_
           refine take_ (i:=10) (N:=some 42) (v:=?_) (a':=?_) (bm 69 4095) rfl rfl (take_ofW HT_.out HW_.out (by kernel_rfl)) (fun _ _ _ h => h) (Or.inl ⟨by rfl,?_⟩) hHeld ?_ ?_
           rotate_left
           ·rintro w' ⟨s0,s1,s2,s3,s4,s5,s6,s7,s8,s9,s10,s11,s12,s13,s14,s15⟩
            go_simp
            with_reducible rfl
           rotate_left
           ·simp only [Act.put,setIfInBounds_toArray,set_cons_zero,set_cons_succ,i64_w,i32_w]
            rfl
           refine take_ (i:=12) (N:=some 44) (v:=?_) (a':=?_) (bm 69 8191) rfl rfl (take_ofW HT_.out HW_.out (by kernel_rfl)) (fun _ _ _ h => h) (Or.inl ⟨by rfl,?_⟩) hHeld ?_ ?_
           rotate_left
           ·rintro w' ⟨s0,s1,s2,s3,s4,s5,s6,s7,s8,s9,s10,s11,s12,s13,s14,s15⟩
            go_simp
            with_reducible rfl
           rotate_left
           ·simp only [Act.put,setIfInBounds_toArray,set_cons_zero,set_cons_succ,i64_w,i32_w]
            rfl
           refine pV_ 13 45 (bm 69 16383) HT_.out ?_
           refine one_ (i:=14) (N:=some 46) (bm 69 32767) rfl rfl (one_of HT_.out (by kernel_rfl)) (by decide) (fun K hK => ?_)
           refine goes_ Tryd.func47 (by kernel_rfl) rfl #[.bool (decide (a0_1 > 1))] (by rfl) rfl rfl mA ?_
           with_reducible refine (spec_l01Bit.calls (decide (a0_1 > 1)) t188 _ A22.out).mono ?_
           rintro e w' ⟨rfl,⟨nd,rfl⟩⟩
           refine ⟨_,rfl,?_⟩
           refine hK.out _ _ ⟨(blk_cell BK181.out 0).trans rfl,(blk_cell BK181.out 1).trans rfl,(blk_cell BK181.out 2).trans rfl,(blk_cell BK181.out 3).trans rfl,(blk_cell BK181.out 4).trans rfl,(blk_cell BK181.out 5).trans rfl,(blk_cell BK181.out 6).trans rfl,(blk_cell BK181.out 7).trans rfl,(blk_cell BK181.out 8).trans rfl,(blk_cell BK181.out 9).trans rfl,(blk_cell BK181.out 10).trans rfl,(blk_cell BK181.out 11).trans rfl,(blk_cell BK181.out 12).trans rfl,(blk_cell BK181.out 13).trans rfl,(blk_cell BK181.out 14).trans rfl,(blk_cell BK181.out 15).trans rfl⟩ (fun hHeld => ?_)
           clear hK K
           refine norm_ (a':=?_) ?_ ?_
           rotate_left
           ·show Act.put _ (some 46) _ = _
            simp only [Act.put,setIfInBounds_toArray,set_cons_zero,set_cons_succ,i64_w,i32_w]
            rfl
           refine one_ (i:=15) (N:=some 47) (bm 69 65535) rfl rfl (one_of HT_.out (by kernel_rfl)) (by decide) (fun K hK => ?_)
           refine goes_ Tryd.func46 (by kernel_rfl) rfl #[.int .i64 a0_2,.int .i64 t188,.int .i64 999999] (by rfl) rfl rfl mA ?_
           with_reducible refine (spec_l01In.calls a0_2 t188 999999 true _ A23.out).mono ?_
           rintro e w' ⟨rfl,⟨nd,rfl⟩⟩
           refine ⟨_,rfl,?_⟩
           refine hK.out _ _ ⟨(blk_cell BK181.out 0).trans rfl,(blk_cell BK181.out 1).trans rfl,(blk_cell BK181.out 2).trans rfl,(blk_cell BK181.out 3).trans rfl,(blk_cell BK181.out 4).trans rfl,(blk_cell BK181.out 5).trans rfl,(blk_cell BK181.out 6).trans rfl,(blk_cell BK181.out 7).trans rfl,(blk_cell BK181.out 8).trans rfl,(blk_cell BK181.out 9).trans rfl,(blk_cell BK181.out 10).trans rfl,(blk_cell BK181.out 11).trans rfl,(blk_cell BK181.out 12).trans rfl,(blk_cell BK181.out 13).trans rfl,(blk_cell BK181.out 14).trans rfl,(blk_cell BK181.out 15).trans rfl⟩ (fun hHeld => ?_)
           clear hK K
           refine norm_ (a':=?_) ?_ ?_
           rotate_left
           ·show Act.put _ (some 47) _ = _
            simp only [Act.put,setIfInBounds_toArray,set_cons_zero,set_cons_succ,i64_w,i32_w]
            rfl
           refine pV_ 16 48 (bm 69 131071) HT_.out ?_
           refine pV_ 17 49 (bm 69 262143) HT_.out ?_
           refine pV_ 18 50 (bm 69 524287) HT_.out ?_
           refine pV_ 19 51 (bm 69 1048575) HT_.out ?_
           refine pV_ 20 52 (bm 69 2097151) HT_.out ?_
           refine pU_ 21 53 (bm 69 4194303) HT_.out ?_
           refine pU_ 22 54 (bm 69 8388607) HT_.out ?_
           refine pU_ 23 55 (bm 69 16777215) HT_.out ?_
           refine pU_ 24 56 (bm 69 33554431) HT_.out ?_
           refine pU_ 25 57 (bm 69 67108863) HT_.out ?_
           refine pU_ 26 58 (bm 69 134217727) HT_.out ?_
           refine pU_ 27 59 (bm 69 268435455) HT_.out ?_
           refine pU_ 28 60 (bm 69 536870911) HT_.out ?_
           refine pU_ 29 61 (bm 69 1073741823) HT_.out ?_
           refine pU_ 30 62 (bm 69 2147483647) HT_.out ?_
           refine pU_ 31 63 (bm 69 4294967295) HT_.out ?_
           refine pU_ 32 64 (bm 69 8589934591) HT_.out ?_
           refine pU_ 33 65 (bm 69 17179869183) HT_.out ?_
           refine pU_ 34 66 (bm 69 34359738367) HT_.out ?_
           refine pU_ 35 67 (bm 69 68719476735) HT_.out ?_
           refine pU_ 36 68 (bm 69 137438953471) HT_.out ?_
           refine pU_ 37 69 (bm 69 274877906943) HT_.out ?_
           refine pU_ 38 70 (bm 69 549755813887) HT_.out ?_
           refine pU_ 39 71 (bm 69 1099511627775) HT_.out ?_
           refine pU_ 40 72 (bm 69 2199023255551) HT_.out ?_
           refine pU_ 41 73 (bm 69 4398046511103) HT_.out ?_
           refine pU_ 42 74 (bm 69 8796093022207) HT_.out ?_
           refine pU_ 43 75 (bm 69 17592186044415) HT_.out ?_
           refine pU_ 44 76 (bm 69 35184372088831) HT_.out ?_
           refine pU_ 45 77 (bm 69 70368744177663) HT_.out ?_
           refine pU_ 46 78 (bm 69 140737488355327) HT_.out ?_
           refine pU_ 47 79 (bm 69 281474976710655) HT_.out ?_
           refine pU_ 48 80 (bm 69 562949953421311) HT_.out ?_
           refine pV_ 49 81 (bm 69 1125899906842623) HT_.out ?_
           refine pV_ 50 82 (bm 69 2251799813685247) HT_.out ?_
           refine pV_ 51 83 (bm 69 4503599627370495) HT_.out ?_
           refine pV_ 52 84 (bm 69 9007199254740991) HT_.out ?_
           refine take_ (i:=53) (N:=some 85) (v:=?_) (a':=?_) (bm 69 18014398509481983) rfl rfl (take_ofW HT_.out HW_.out (by kernel_rfl)) (fun _ _ _ h => h) (Or.inl ⟨by rfl,?_⟩) hHeld ?_ ?_
           rotate_left
           ·rintro w' ⟨s0,s1,s2,s3,s4,s5,s6,s7,s8,s9,s10,s11,s12,s13,s14,s15⟩
            go_simp
            with_reducible rfl
           rotate_left
           ·simp only [Act.put,setIfInBounds_toArray,set_cons_zero,set_cons_succ,i64_w,i32_w]
            rfl
           refine one_ (i:=54) (N:=some 86) (bm 69 36028797018963967) rfl rfl (one_of HT_.out (by kernel_rfl)) (by decide) (fun K hK => ?_)
           refine goes_ Tryd.func49 (by kernel_rfl) rfl #[.agg #[.int .i64 a0_10,.int .i64 a0_11,.int .i64 a0_12,.int .i64 a0_13,.int .i64 a0_14,.int .i64 a0_15]] (by rfl) rfl rfl mA ?_
           with_reducible refine (spec_AggOK.calls a0_10 a0_11 a0_12 a0_13 a0_14 a0_15 true _ A74.out).mono ?_
           rintro e w82 ⟨rfl,hb⟩
           refine ⟨_,rfl,?_⟩
           have n0_ := Aside0.mk (blk_below (g:=gb181) (o:=.cells #[.int .i64 a0_0,.int .i64 a0_1,.int .i64 a0_2,.int .i64 a0_3,.int .i64 a0_4,.int .i64 a0_5,.int .i64 a0_6,.int .i64 a0_7,.string a0_8,.slice A0_9 l0_9.length c0_9,.int .i64 a0_10,.int .i64 a0_11,.int .i64 a0_12,.int .i64 a0_13,.int .i64 a0_14,.int .i64 a0_15] 51 (0,0)) (kA BK181.out) hb)
           have n1_ := Aside0.mk (below_step bA hb)
           clear BK181
           clear HB
           have BK181 := n0_
           have HB := n1_
           clear n0_ n1_
           (try clear hb)
           (try clear hb2)
           (try clear hk)
           (try clear hi)
           refine hK.out _ _ ⟨(blk_cell BK181.out 0).trans rfl,(blk_cell BK181.out 1).trans rfl,(blk_cell BK181.out 2).trans rfl,(blk_cell BK181.out 3).trans rfl,(blk_cell BK181.out 4).trans rfl,(blk_cell BK181.out 5).trans rfl,(blk_cell BK181.out 6).trans rfl,(blk_cell BK181.out 7).trans rfl,(blk_cell BK181.out 8).trans rfl,(blk_cell BK181.out 9).trans rfl,(blk_cell BK181.out 10).trans rfl,(blk_cell BK181.out 11).trans rfl,(blk_cell BK181.out 12).trans rfl,(blk_cell BK181.out 13).trans rfl,(blk_cell BK181.out 14).trans rfl,(blk_cell BK181.out 15).trans rfl⟩ (fun hHeld => ?_)
           clear hK K
           refine norm_ (a':=?_) ?_ ?_
           rotate_left
           ·show Act.put _ (some 86) _ = _
            simp only [Act.put,setIfInBounds_toArray,set_cons_zero,set_cons_succ,i64_w,i32_w]
            rfl
           refine pV_ 55 87 (bm 69 72057594037927935) HT_.out ?_
           refine pV_ 56 88 (bm 69 144115188075855871) HT_.out ?_
           refine pV_ 57 89 (bm 69 288230376151711743) HT_.out ?_
           refine pV_ 58 90 (bm 69 576460752303423487) HT_.out ?_
           refine take_ (i:=59) (N:=some 91) (v:=?_) (a':=?_) (bm 69 1152921504606846975) rfl rfl (take_ofW HT_.out HW_.out (by kernel_rfl)) (fun _ _ _ h => h) (Or.inl ⟨by rfl,?_⟩) hHeld ?_ ?_
           rotate_left
           ·rintro w' ⟨s0,s1,s2,s3,s4,s5,s6,s7,s8,s9,s10,s11,s12,s13,s14,s15⟩
            go_simp
            with_reducible rfl
           rotate_left
           ·simp only [Act.put,setIfInBounds_toArray,set_cons_zero,set_cons_succ,i64_w,i32_w]
            rfl
           refine pV_ 60 92 (bm 69 2305843009213693951) HT_.out ?_
           refine pV_ 61 93 (bm 69 4611686018427387903) HT_.out ?_
           refine pV_ 62 94 (bm 69 9223372036854775807) HT_.out ?_
           refine pU_ 63 95 (bm 69 18446744073709551615) HT_.out ?_
           refine pU_ 64 96 (bm 69 36893488147419103231) HT_.out ?_
           refine pU_ 65 97 (bm 69 73786976294838206463) HT_.out ?_
           refine pU_ 66 98 (bm 69 147573952589676412927) HT_.out ?_
           refine pV_ 67 99 (bm 69 295147905179352825855) HT_.out ?_
           refine pV_ 68 2 (bm 69 590295810358705651711) HT_.out ?_
           refine done_ (done_of HT_.out (by kernel_rfl)) ?_
           try go_wp2
           go_ret
           exact ⟨by first | rfl | (simp only [i64_w,i32_w] <;> rfl) | (simp [errW_none,errW_some] <;> rfl) | (simp [*,errW_none,errW_some] <;> rfl),bA⟩
         ·replace c75 := Bool.eq_false_iff.mpr c75
          subst c75
          rw [if_neg (show ¬ (false = true) by decide)] at H
          obtain rfl := Option.some.inj H
          have hcz83_0 : wr.cell? ⟨gb181,0,none⟩ = some (.int .i64 a0_0) := (blk_cell BK181.out 0).trans rfl
          have hcz83_1 : wr.cell? ⟨gb181,1,none⟩ = some (.int .i64 a0_1) := (blk_cell BK181.out 1).trans rfl
          have hcz83_2 : wr.cell? ⟨gb181,2,none⟩ = some (.int .i64 a0_2) := (blk_cell BK181.out 2).trans rfl
          have hcz83_3 : wr.cell? ⟨gb181,3,none⟩ = some (.int .i64 a0_3) := (blk_cell BK181.out 3).trans rfl
          have hcz83_4 : wr.cell? ⟨gb181,4,none⟩ = some (.int .i64 a0_4) := (blk_cell BK181.out 4).trans rfl
          have hcz83_5 : wr.cell? ⟨gb181,5,none⟩ = some (.int .i64 a0_5) := (blk_cell BK181.out 5).trans rfl
          have hcz83_6 : wr.cell? ⟨gb181,6,none⟩ = some (.int .i64 a0_6) := (blk_cell BK181.out 6).trans rfl
          have hcz83_7 : wr.cell? ⟨gb181,7,none⟩ = some (.int .i64 a0_7) := (blk_cell BK181.out 7).trans rfl
          have hcz83_8 : wr.cell? ⟨gb181,8,none⟩ = some (.string a0_8) := (blk_cell BK181.out 8).trans rfl
          have hcz83_9 : wr.cell? ⟨gb181,9,none⟩ = some (.slice A0_9 l0_9.length c0_9) := (blk_cell BK181.out 9).trans rfl
          have hcz83_10 : wr.cell? ⟨gb181,10,none⟩ = some (.int .i64 a0_10) := (blk_cell BK181.out 10).trans rfl
          have hcz83_11 : wr.cell? ⟨gb181,11,none⟩ = some (.int .i64 a0_11) := (blk_cell BK181.out 11).trans rfl
          have hcz83_12 : wr.cell? ⟨gb181,12,none⟩ = some (.int .i64 a0_12) := (blk_cell BK181.out 12).trans rfl
          have hcz83_13 : wr.cell? ⟨gb181,13,none⟩ = some (.int .i64 a0_13) := (blk_cell BK181.out 13).trans rfl
          have hcz83_14 : wr.cell? ⟨gb181,14,none⟩ = some (.int .i64 a0_14) := (blk_cell BK181.out 14).trans rfl
          have hcz83_15 : wr.cell? ⟨gb181,15,none⟩ = some (.int .i64 a0_15) := (blk_cell BK181.out 15).trans rfl
          have hfz83_0 := blk_frozen BK181.out 0
          have hfz83_1 := blk_frozen BK181.out 1
          have hfz83_2 := blk_frozen BK181.out 2
          have hfz83_3 := blk_frozen BK181.out 3
          have hfz83_4 := blk_frozen BK181.out 4
          have hfz83_5 := blk_frozen BK181.out 5
          have hfz83_6 := blk_frozen BK181.out 6
          have hfz83_7 := blk_frozen BK181.out 7
          have hfz83_8 := blk_frozen BK181.out 8
          have hfz83_9 := blk_frozen BK181.out 9
          have hfz83_10 := blk_frozen BK181.out 10
          have hfz83_11 := blk_frozen BK181.out 11
          have hfz83_12 := blk_frozen BK181.out 12
          have hfz83_13 := blk_frozen BK181.out 13
          have hfz83_14 := blk_frozen BK181.out 14
          have hfz83_15 := blk_frozen BK181.out 15
          try go_wp2_with (first | ((with_reducible refine gate_callee (f:=46) rfl ?_); refine goesL_ (some 31) rfl rfl Tryd.func46 (by kernel_rfl) rfl #[.int .i64 a0_1,.int .i64 4,.int .i64 6] rfl mA ?_; (with_reducible refine (spec_l01In.calls a0_1 4 6 false _ A17.out).mono ?_); rintro e w' ⟨rfl,⟨nd,rfl⟩⟩; refine ⟨_,rfl,?_⟩))
          (try (rw [drewN_self wr]; generalize hq_ : World.drewN wr _ = wr; have n0_ : Aside0 (wr.heap[gb181]? = some (.cells #[.int .i64 a0_0,.int .i64 a0_1,.int .i64 a0_2,.int .i64 a0_3,.int .i64 a0_4,.int .i64 a0_5,.int .i64 a0_6,.int .i64 a0_7,.string a0_8,.slice A0_9 l0_9.length c0_9,.int .i64 a0_10,.int .i64 a0_11,.int .i64 a0_12,.int .i64 a0_13,.int .i64 a0_14,.int .i64 a0_15] 51 (0,0))) := ⟨by rw [← hq_]; exact (kA BK181.out)⟩; have n1_ : Aside0 (Below w.heap.size w wr) := ⟨by rw [← hq_]; exact bA⟩; clear BK181 HB hq_; have BK181 := n0_; have HB := n1_; clear n0_ n1_))
          have n0_ := Aside0.mk (blk_drew BK181.out)
          have n1_ := Aside0.mk (below_drew1 HB.out)
          clear BK181
          clear HB
          have BK181 := n0_
          have HB := n1_
          clear n0_ n1_
          refine start_ (n:=69) (S:=fun w' => w'.cell? ⟨gb181,0,none⟩ = some (.int .i64 a0_0) ∧ w'.cell? ⟨gb181,1,none⟩ = some (.int .i64 a0_1) ∧ w'.cell? ⟨gb181,2,none⟩ = some (.int .i64 a0_2) ∧ w'.cell? ⟨gb181,3,none⟩ = some (.int .i64 a0_3) ∧ w'.cell? ⟨gb181,4,none⟩ = some (.int .i64 a0_4) ∧ w'.cell? ⟨gb181,5,none⟩ = some (.int .i64 a0_5) ∧ w'.cell? ⟨gb181,6,none⟩ = some (.int .i64 a0_6) ∧ w'.cell? ⟨gb181,7,none⟩ = some (.int .i64 a0_7) ∧ w'.cell? ⟨gb181,8,none⟩ = some (.string a0_8) ∧ w'.cell? ⟨gb181,9,none⟩ = some (.slice A0_9 l0_9.length c0_9) ∧ w'.cell? ⟨gb181,10,none⟩ = some (.int .i64 a0_10) ∧ w'.cell? ⟨gb181,11,none⟩ = some (.int .i64 a0_11) ∧ w'.cell? ⟨gb181,12,none⟩ = some (.int .i64 a0_12) ∧ w'.cell? ⟨gb181,13,none⟩ = some (.int .i64 a0_13) ∧ w'.cell? ⟨gb181,14,none⟩ = some (.int .i64 a0_14) ∧ w'.cell? ⟨gb181,15,none⟩ = some (.int .i64 a0_15)) (ds := []) (bm 69 0) (by kernel_rfl) rfl rfl ⟨(blk_cell BK181.out 0).trans rfl,(blk_cell BK181.out 1).trans rfl,(blk_cell BK181.out 2).trans rfl,(blk_cell BK181.out 3).trans rfl,(blk_cell BK181.out 4).trans rfl,(blk_cell BK181.out 5).trans rfl,(blk_cell BK181.out 6).trans rfl,(blk_cell BK181.out 7).trans rfl,(blk_cell BK181.out 8).trans rfl,(blk_cell BK181.out 9).trans rfl,(blk_cell BK181.out 10).trans rfl,(blk_cell BK181.out 11).trans rfl,(blk_cell BK181.out 12).trans rfl,(blk_cell BK181.out 13).trans rfl,(blk_cell BK181.out 14).trans rfl,(blk_cell BK181.out 15).trans rfl⟩ (fun hHeld => ?_); refine with_tabW spec_WorkerOK.tab8 spec_WorkerOK.bits8 (fun HT_ HW_ => ?_)
          generalize wr.drew = w84 at BK181 HB hHeld ⊢
          refine pV_ 0 32 (bm 69 1) HT_.out ?_
          refine take_ (i:=1) (N:=some 33) (v:=?_) (a':=?_) (bm 69 3) rfl rfl (take_ofW HT_.out HW_.out (by kernel_rfl)) (fun _ _ _ h => h) (Or.inl ⟨by rfl,?_⟩) hHeld ?_ ?_
          rotate_left
          ·rintro w' ⟨s0,s1,s2,s3,s4,s5,s6,s7,s8,s9,s10,s11,s12,s13,s14,s15⟩
           go_simp
           with_reducible rfl
          rotate_left
          ·simp only [Act.put,setIfInBounds_toArray,set_cons_zero,set_cons_succ,i64_w,i32_w]
           rfl
          refine one_ (i:=2) (N:=some 34) (bm 69 7) rfl rfl (one_of HT_.out (by kernel_rfl)) (by decide) (fun K hK => ?_)
          refine goes_ Tryd.func46 (by kernel_rfl) rfl #[.int .i64 a0_0,.int .i64 0,.int .i64 9] (by rfl) rfl rfl mA ?_
          with_reducible refine (spec_l01In.calls a0_0 0 9 true _ A18.out).mono ?_
          rintro e w' ⟨rfl,⟨nd,rfl⟩⟩
          refine ⟨_,rfl,?_⟩
          refine hK.out _ _ ⟨(blk_cell BK181.out 0).trans rfl,(blk_cell BK181.out 1).trans rfl,(blk_cell BK181.out 2).trans rfl,(blk_cell BK181.out 3).trans rfl,(blk_cell BK181.out 4).trans rfl,(blk_cell BK181.out 5).trans rfl,(blk_cell BK181.out 6).trans rfl,(blk_cell BK181.out 7).trans rfl,(blk_cell BK181.out 8).trans rfl,(blk_cell BK181.out 9).trans rfl,(blk_cell BK181.out 10).trans rfl,(blk_cell BK181.out 11).trans rfl,(blk_cell BK181.out 12).trans rfl,(blk_cell BK181.out 13).trans rfl,(blk_cell BK181.out 14).trans rfl,(blk_cell BK181.out 15).trans rfl⟩ (fun hHeld => ?_)
          clear hK K
          refine norm_ (a':=?_) ?_ ?_
          rotate_left
          ·show Act.put _ (some 34) _ = _
           simp only [Act.put,setIfInBounds_toArray,set_cons_zero,set_cons_succ,i64_w,i32_w]
           rfl
          refine pV_ 3 35 (bm 69 15) HT_.out ?_
          refine pV_ 4 36 (bm 69 31) HT_.out ?_
          refine take_ (i:=5) (N:=some 37) (v:=?_) (a':=?_) (bm 69 63) rfl rfl (take_ofW HT_.out HW_.out (by kernel_rfl)) (fun _ _ _ h => h) (Or.inl ⟨by rfl,?_⟩) hHeld ?_ ?_
          rotate_left
          ·rintro w' ⟨s0,s1,s2,s3,s4,s5,s6,s7,s8,s9,s10,s11,s12,s13,s14,s15⟩
           go_simp
           with_reducible rfl
          rotate_left
          ·simp only [Act.put,setIfInBounds_toArray,set_cons_zero,set_cons_succ,i64_w,i32_w]
           rfl
          refine one_ (i:=6) (N:=some 38) (bm 69 127) rfl rfl (one_of HT_.out (by kernel_rfl)) (by decide) (fun K hK => ?_)
          refine goes_ Tryd.func46 (by kernel_rfl) rfl #[.int .i64 a0_1,.int .i64 0,.int .i64 7] (by rfl) rfl rfl mA ?_
          with_reducible refine (spec_l01In.calls a0_1 0 7 true _ A20.out).mono ?_
          rintro e w' ⟨rfl,⟨nd,rfl⟩⟩
          refine ⟨_,rfl,?_⟩
          refine hK.out _ _ ⟨(blk_cell BK181.out 0).trans rfl,(blk_cell BK181.out 1).trans rfl,(blk_cell BK181.out 2).trans rfl,(blk_cell BK181.out 3).trans rfl,(blk_cell BK181.out 4).trans rfl,(blk_cell BK181.out 5).trans rfl,(blk_cell BK181.out 6).trans rfl,(blk_cell BK181.out 7).trans rfl,(blk_cell BK181.out 8).trans rfl,(blk_cell BK181.out 9).trans rfl,(blk_cell BK181.out 10).trans rfl,(blk_cell BK181.out 11).trans rfl,(blk_cell BK181.out 12).trans rfl,(blk_cell BK181.out 13).trans rfl,(blk_cell BK181.out 14).trans rfl,(blk_cell BK181.out 15).trans rfl⟩ (fun hHeld => ?_)
          clear hK K
          refine norm_ (a':=?_) ?_ ?_
          rotate_left
          ·show Act.put _ (some 38) _ = _
           simp only [Act.put,setIfInBounds_toArray,set_cons_zero,set_cons_succ,i64_w,i32_w]
           rfl
          refine pV_ 7 39 (bm 69 255) HT_.out ?_
          refine pV_ 8 40 (bm 69 511) HT_.out ?_
          refine pV_ 9 41 (bm 69 1023) HT_.out ?_
          refine pV_ 11 43 (bm 69 3071) HT_.out ?_
          refine take_ (i:=10) (N:=some 42) (v:=?_) (a':=?_) (bm 69 4095) rfl rfl (take_ofW HT_.out HW_.out (by kernel_rfl)) (fun _ _ _ h => h) (Or.inl ⟨by rfl,?_⟩) hHeld ?_ ?_
          rotate_left
          ·rintro w' ⟨s0,s1,s2,s3,s4,s5,s6,s7,s8,s9,s10,s11,s12,s13,s14,s15⟩
           go_simp
           with_reducible rfl
          rotate_left
          ·simp only [Act.put,setIfInBounds_toArray,set_cons_zero,set_cons_succ,i64_w,i32_w]
           rfl
          refine take_ (i:=12) (N:=some 44) (v:=?_) (a':=?_) (bm 69 8191) rfl rfl (take_ofW HT_.out HW_.out (by kernel_rfl)) (fun _ _ _ h => h) (Or.inl ⟨by rfl,?_⟩) hHeld ?_ ?_
          rotate_left
          ·rintro w' ⟨s0,s1,s2,s3,s4,s5,s6,s7,s8,s9,s10,s11,s12,s13,s14,s15⟩
           go_simp
           with_reducible rfl
          rotate_left
          ·simp only [Act.put,setIfInBounds_toArray,set_cons_zero,set_cons_succ,i64_w,i32_w]
           rfl
          refine pV_ 13 45 (bm 69 16383) HT_.out ?_
          refine one_ (i:=14) (N:=some 46) (bm 69 32767) rfl rfl (one_of HT_.out (by kernel_rfl)) (by decide) (fun K hK => ?_)
          refine goes_ Tryd.func47 (by kernel_rfl) rfl #[.bool (decide (a0_1 > 1))] (by rfl) rfl rfl mA ?_
          with_reducible refine (spec_l01Bit.calls (decide (a0_1 > 1)) t188 _ A22.out).mono ?_
          rintro e w' ⟨rfl,⟨nd,rfl⟩⟩
          refine ⟨_,rfl,?_⟩
          refine hK.out _ _ ⟨(blk_cell BK181.out 0).trans rfl,(blk_cell BK181.out 1).trans rfl,(blk_cell BK181.out 2).trans rfl,(blk_cell BK181.out 3).trans rfl,(blk_cell BK181.out 4).trans rfl,(blk_cell BK181.out 5).trans rfl,(blk_cell BK181.out 6).trans rfl,(blk_cell BK181.out 7).trans rfl,(blk_cell BK181.out 8).trans rfl,(blk_cell BK181.out 9).trans rfl,(blk_cell BK181.out 10).trans rfl,(blk_cell BK181.out 11).trans rfl,(blk_cell BK181.out 12).trans rfl,(blk_cell BK181.out 13).trans rfl,(blk_cell BK181.out 14).trans rfl,(blk_cell BK181.out 15).trans rfl⟩ (fun hHeld => ?_)
          clear hK K
          refine norm_ (a':=?_) ?_ ?_
          rotate_left
          ·show Act.put _ (some 46) _ = _
           simp only [Act.put,setIfInBounds_toArray,set_cons_zero,set_cons_succ,i64_w,i32_w]
           rfl
          refine one_ (i:=15) (N:=some 47) (bm 69 65535) rfl rfl (one_of HT_.out (by kernel_rfl)) (by decide) (fun K hK => ?_)
          refine goes_ Tryd.func46 (by kernel_rfl) rfl #[.int .i64 a0_2,.int .i64 t188,.int .i64 999999] (by rfl) rfl rfl mA ?_
          with_reducible refine (spec_l01In.calls a0_2 t188 999999 true _ A23.out).mono ?_
          rintro e w' ⟨rfl,⟨nd,rfl⟩⟩
          refine ⟨_,rfl,?_⟩
          refine hK.out _ _ ⟨(blk_cell BK181.out 0).trans rfl,(blk_cell BK181.out 1).trans rfl,(blk_cell BK181.out 2).trans rfl,(blk_cell BK181.out 3).trans rfl,(blk_cell BK181.out 4).trans rfl,(blk_cell BK181.out 5).trans rfl,(blk_cell BK181.out 6).trans rfl,(blk_cell BK181.out 7).trans rfl,(blk_cell BK181.out 8).trans rfl,(blk_cell BK181.out 9).trans rfl,(blk_cell BK181.out 10).trans rfl,(blk_cell BK181.out 11).trans rfl,(blk_cell BK181.out 12).trans rfl,(blk_cell BK181.out 13).trans rfl,(blk_cell BK181.out 14).trans rfl,(blk_cell BK181.out 15).trans rfl⟩ (fun hHeld => ?_)
          clear hK K
          refine norm_ (a':=?_) ?_ ?_
          rotate_left
          ·show Act.put _ (some 47) _ = _
           simp only [Act.put,setIfInBounds_toArray,set_cons_zero,set_cons_succ,i64_w,i32_w]
           rfl
          refine pV_ 16 48 (bm 69 131071) HT_.out ?_
          refine pV_ 17 49 (bm 69 262143) HT_.out ?_
          refine pV_ 18 50 (bm 69 524287) HT_.out ?_
          refine pV_ 19 51 (bm 69 1048575) HT_.out ?_
          refine pV_ 20 52 (bm 69 2097151) HT_.out ?_
          refine pU_ 21 53 (bm 69 4194303) HT_.out ?_
          refine pU_ 22 54 (bm 69 8388607) HT_.out ?_
          refine pU_ 23 55 (bm 69 16777215) HT_.out ?_
          refine pU_ 24 56 (bm 69 33554431) HT_.out ?_
          refine pU_ 25 57 (bm 69 67108863) HT_.out ?_
          refine pU_ 26 58 (bm 69 134217727) HT_.out ?_
          refine pU_ 27 59 (bm 69 268435455) HT_.out ?_
          refine pU_ 28 60 (bm 69 536870911) HT_.out ?_
          refine pU_ 29 61 (bm 69 1073741823) HT_.out ?_
          refine pU_ 30 62 (bm 69 2147483647) HT_.out ?_
          refine pU_ 31 63 (bm 69 4294967295) HT_.out ?_
          refine pU_ 32 64 (bm 69 8589934591) HT_.out ?_
          refine pU_ 33 65 (bm 69 17179869183) HT_.out ?_
          refine pU_ 34 66 (bm 69 34359738367) HT_.out ?_
          refine pU_ 35 67 (bm 69 68719476735) HT_.out ?_
          refine pU_ 36 68 (bm 69 137438953471) HT_.out ?_
          refine pU_ 37 69 (bm 69 274877906943) HT_.out ?_
          refine pU_ 38 70 (bm 69 549755813887) HT_.out ?_
          refine pU_ 39 71 (bm 69 1099511627775) HT_.out ?_
          refine pU_ 40 72 (bm 69 2199023255551) HT_.out ?_
          refine pU_ 41 73 (bm 69 4398046511103) HT_.out ?_
          refine pU_ 42 74 (bm 69 8796093022207) HT_.out ?_
          refine pU_ 43 75 (bm 69 17592186044415) HT_.out ?_
          refine pU_ 44 76 (bm 69 35184372088831) HT_.out ?_
          refine pU_ 45 77 (bm 69 70368744177663) HT_.out ?_
          refine pU_ 46 78 (bm 69 140737488355327) HT_.out ?_
          refine pU_ 47 79 (bm 69 281474976710655) HT_.out ?_
          refine pU_ 48 80 (bm 69 562949953421311) HT_.out ?_
          refine pV_ 49 81 (bm 69 1125899906842623) HT_.out ?_
          refine pV_ 50 82 (bm 69 2251799813685247) HT_.out ?_
          refine pV_ 51 83 (bm 69 4503599627370495) HT_.out ?_
          refine pV_ 52 84 (bm 69 9007199254740991) HT_.out ?_
          refine take_ (i:=53) (N:=some 85) (v:=?_) (a':=?_) (bm 69 18014398509481983) rfl rfl (take_ofW HT_.out HW_.out (by kernel_rfl)) (fun _ _ _ h => h) (Or.inl ⟨by rfl,?_⟩) hHeld ?_ ?_
          rotate_left
          ·rintro w' ⟨s0,s1,s2,s3,s4,s5,s6,s7,s8,s9,s10,s11,s12,s13,s14,s15⟩
           go_simp
           with_reducible rfl
          rotate_left
          ·simp only [Act.put,setIfInBounds_toArray,set_cons_zero,set_cons_succ,i64_w,i32_w]
           rfl
          refine one_ (i:=54) (N:=some 86) (bm 69 36028797018963967) rfl rfl (one_of HT_.out (by kernel_rfl)) (by decide) (fun K hK => ?_)
          refine goes_ Tryd.func49 (by kernel_rfl) rfl #[.agg #[.int .i64 a0_10,.int .i64 a0_11,.int .i64 a0_12,.int .i64 a0_13,.int .i64 a0_14,.int .i64 a0_15]] (by rfl) rfl rfl mA ?_
          with_reducible refine (spec_AggOK.calls a0_10 a0_11 a0_12 a0_13 a0_14 a0_15 false _ A74.out).mono ?_
          rintro e w85 ⟨rfl,hb⟩
          refine ⟨_,rfl,?_⟩
          have n0_ := Aside0.mk (blk_below (g:=gb181) (o:=.cells #[.int .i64 a0_0,.int .i64 a0_1,.int .i64 a0_2,.int .i64 a0_3,.int .i64 a0_4,.int .i64 a0_5,.int .i64 a0_6,.int .i64 a0_7,.string a0_8,.slice A0_9 l0_9.length c0_9,.int .i64 a0_10,.int .i64 a0_11,.int .i64 a0_12,.int .i64 a0_13,.int .i64 a0_14,.int .i64 a0_15] 51 (0,0)) (kA BK181.out) hb)
          have n1_ := Aside0.mk (below_step bA hb)
          clear BK181
          clear HB
          have BK181 := n0_
          have HB := n1_
          clear n0_ n1_
          (try clear hb)
          (try clear hb2)
          (try clear hk)
          (try clear hi)
          refine hK.out _ _ ⟨(blk_cell BK181.out 0).trans rfl,(blk_cell BK181.out 1).trans rfl,(blk_cell BK181.out 2).trans rfl,(blk_cell BK181.out 3).trans rfl,(blk_cell BK181.out 4).trans rfl,(blk_cell BK181.out 5).trans rfl,(blk_cell BK181.out 6).trans rfl,(blk_cell BK181.out 7).trans rfl,(blk_cell BK181.out 8).trans rfl,(blk_cell BK181.out 9).trans rfl,(blk_cell BK181.out 10).trans rfl,(blk_cell BK181.out 11).trans rfl,(blk_cell BK181.out 12).trans rfl,(blk_cell BK181.out 13).trans rfl,(blk_cell BK181.out 14).trans rfl,(blk_cell BK181.out 15).trans rfl⟩ (fun hHeld => ?_)
          clear hK K
          refine norm_ (a':=?_) ?_ ?_
          rotate_left
          ·show Act.put _ (some 86) _ = _
           simp only [Act.put,setIfInBounds_toArray,set_cons_zero,set_cons_succ,i64_w,i32_w]
           rfl
          refine pV_ 55 87 (bm 69 72057594037927935) HT_.out ?_
          refine pV_ 56 88 (bm 69 144115188075855871) HT_.out ?_
          refine pU_ 57 89 (bm 69 288230376151711743) HT_.out ?_
          refine pU_ 58 90 (bm 69 576460752303423487) HT_.out ?_
          refine pU_ 59 91 (bm 69 1152921504606846975) HT_.out ?_
          refine pU_ 60 92 (bm 69 2305843009213693951) HT_.out ?_
          refine pV_ 61 93 (bm 69 4611686018427387903) HT_.out ?_
          refine pV_ 62 94 (bm 69 9223372036854775807) HT_.out ?_
          refine pU_ 63 95 (bm 69 18446744073709551615) HT_.out ?_
          refine pU_ 64 96 (bm 69 36893488147419103231) HT_.out ?_
          refine pU_ 65 97 (bm 69 73786976294838206463) HT_.out ?_
          refine pU_ 66 98 (bm 69 147573952589676412927) HT_.out ?_
          refine pV_ 67 99 (bm 69 295147905179352825855) HT_.out ?_
          refine pV_ 68 2 (bm 69 590295810358705651711) HT_.out ?_
          refine done_ (done_of HT_.out (by kernel_rfl)) ?_
          try go_wp2
          go_ret
          exact ⟨by first | rfl | (simp only [i64_w,i32_w] <;> rfl) | (simp [errW_none,errW_some] <;> rfl) | (simp [*,errW_none,errW_some] <;> rfl),bA⟩
       ·replace c24 := Bool.eq_false_iff.mpr c24
        subst c24
        rw [if_neg (show ¬ (false = true) by decide)] at H
        obtain rfl := Option.some.inj H
        have hcz86_0 : wr.cell? ⟨gb181,0,none⟩ = some (.int .i64 a0_0) := (blk_cell BK181.out 0).trans rfl
        have hcz86_1 : wr.cell? ⟨gb181,1,none⟩ = some (.int .i64 a0_1) := (blk_cell BK181.out 1).trans rfl
        have hcz86_2 : wr.cell? ⟨gb181,2,none⟩ = some (.int .i64 a0_2) := (blk_cell BK181.out 2).trans rfl
        have hcz86_3 : wr.cell? ⟨gb181,3,none⟩ = some (.int .i64 a0_3) := (blk_cell BK181.out 3).trans rfl
        have hcz86_4 : wr.cell? ⟨gb181,4,none⟩ = some (.int .i64 a0_4) := (blk_cell BK181.out 4).trans rfl
        have hcz86_5 : wr.cell? ⟨gb181,5,none⟩ = some (.int .i64 a0_5) := (blk_cell BK181.out 5).trans rfl
        have hcz86_6 : wr.cell? ⟨gb181,6,none⟩ = some (.int .i64 a0_6) := (blk_cell BK181.out 6).trans rfl
        have hcz86_7 : wr.cell? ⟨gb181,7,none⟩ = some (.int .i64 a0_7) := (blk_cell BK181.out 7).trans rfl
        have hcz86_8 : wr.cell? ⟨gb181,8,none⟩ = some (.string a0_8) := (blk_cell BK181.out 8).trans rfl
        have hcz86_9 : wr.cell? ⟨gb181,9,none⟩ = some (.slice A0_9 l0_9.length c0_9) := (blk_cell BK181.out 9).trans rfl
        have hcz86_10 : wr.cell? ⟨gb181,10,none⟩ = some (.int .i64 a0_10) := (blk_cell BK181.out 10).trans rfl
        have hcz86_11 : wr.cell? ⟨gb181,11,none⟩ = some (.int .i64 a0_11) := (blk_cell BK181.out 11).trans rfl
        have hcz86_12 : wr.cell? ⟨gb181,12,none⟩ = some (.int .i64 a0_12) := (blk_cell BK181.out 12).trans rfl
        have hcz86_13 : wr.cell? ⟨gb181,13,none⟩ = some (.int .i64 a0_13) := (blk_cell BK181.out 13).trans rfl
        have hcz86_14 : wr.cell? ⟨gb181,14,none⟩ = some (.int .i64 a0_14) := (blk_cell BK181.out 14).trans rfl
        have hcz86_15 : wr.cell? ⟨gb181,15,none⟩ = some (.int .i64 a0_15) := (blk_cell BK181.out 15).trans rfl
        have hfz86_0 := blk_frozen BK181.out 0
        have hfz86_1 := blk_frozen BK181.out 1
        have hfz86_2 := blk_frozen BK181.out 2
        have hfz86_3 := blk_frozen BK181.out 3
        have hfz86_4 := blk_frozen BK181.out 4
        have hfz86_5 := blk_frozen BK181.out 5
        have hfz86_6 := blk_frozen BK181.out 6
        have hfz86_7 := blk_frozen BK181.out 7
        have hfz86_8 := blk_frozen BK181.out 8
        have hfz86_9 := blk_frozen BK181.out 9
        have hfz86_10 := blk_frozen BK181.out 10
        have hfz86_11 := blk_frozen BK181.out 11
        have hfz86_12 := blk_frozen BK181.out 12
        have hfz86_13 := blk_frozen BK181.out 13
        have hfz86_14 := blk_frozen BK181.out 14
        have hfz86_15 := blk_frozen BK181.out 15
        try go_wp2_with (first | ((with_reducible refine gate_callee (f:=46) rfl ?_); refine goesL_ (some 31) rfl rfl Tryd.func46 (by kernel_rfl) rfl #[.int .i64 a0_1,.int .i64 4,.int .i64 6] rfl mA ?_; (with_reducible refine (spec_l01In.calls a0_1 4 6 t185 _ A17.out).mono ?_); rintro e w' ⟨rfl,⟨nd,rfl⟩⟩; refine ⟨_,rfl,?_⟩))
        (try (rw [drewN_self wr]; generalize hq_ : World.drewN wr _ = wr; have n0_ : Aside0 (wr.heap[gb181]? = some (.cells #[.int .i64 a0_0,.int .i64 a0_1,.int .i64 a0_2,.int .i64 a0_3,.int .i64 a0_4,.int .i64 a0_5,.int .i64 a0_6,.int .i64 a0_7,.string a0_8,.slice A0_9 l0_9.length c0_9,.int .i64 a0_10,.int .i64 a0_11,.int .i64 a0_12,.int .i64 a0_13,.int .i64 a0_14,.int .i64 a0_15] 51 (0,0))) := ⟨by rw [← hq_]; exact (kA BK181.out)⟩; have n1_ : Aside0 (Below w.heap.size w wr) := ⟨by rw [← hq_]; exact bA⟩; clear BK181 HB hq_; have BK181 := n0_; have HB := n1_; clear n0_ n1_))
        have n0_ := Aside0.mk (blk_drew BK181.out)
        have n1_ := Aside0.mk (below_drew1 HB.out)
        clear BK181
        clear HB
        have BK181 := n0_
        have HB := n1_
        clear n0_ n1_
        refine start_ (n:=69) (S:=fun w' => w'.cell? ⟨gb181,0,none⟩ = some (.int .i64 a0_0) ∧ w'.cell? ⟨gb181,1,none⟩ = some (.int .i64 a0_1) ∧ w'.cell? ⟨gb181,2,none⟩ = some (.int .i64 a0_2) ∧ w'.cell? ⟨gb181,3,none⟩ = some (.int .i64 a0_3) ∧ w'.cell? ⟨gb181,4,none⟩ = some (.int .i64 a0_4) ∧ w'.cell? ⟨gb181,5,none⟩ = some (.int .i64 a0_5) ∧ w'.cell? ⟨gb181,6,none⟩ = some (.int .i64 a0_6) ∧ w'.cell? ⟨gb181,7,none⟩ = some (.int .i64 a0_7) ∧ w'.cell? ⟨gb181,8,none⟩ = some (.string a0_8) ∧ w'.cell? ⟨gb181,9,none⟩ = some (.slice A0_9 l0_9.length c0_9) ∧ w'.cell? ⟨gb181,10,none⟩ = some (.int .i64 a0_10) ∧ w'.cell? ⟨gb181,11,none⟩ = some (.int .i64 a0_11) ∧ w'.cell? ⟨gb181,12,none⟩ = some (.int .i64 a0_12) ∧ w'.cell? ⟨gb181,13,none⟩ = some (.int .i64 a0_13) ∧ w'.cell? ⟨gb181,14,none⟩ = some (.int .i64 a0_14) ∧ w'.cell? ⟨gb181,15,none⟩ = some (.int .i64 a0_15)) (ds := []) (bm 69 0) (by kernel_rfl) rfl rfl ⟨(blk_cell BK181.out 0).trans rfl,(blk_cell BK181.out 1).trans rfl,(blk_cell BK181.out 2).trans rfl,(blk_cell BK181.out 3).trans rfl,(blk_cell BK181.out 4).trans rfl,(blk_cell BK181.out 5).trans rfl,(blk_cell BK181.out 6).trans rfl,(blk_cell BK181.out 7).trans rfl,(blk_cell BK181.out 8).trans rfl,(blk_cell BK181.out 9).trans rfl,(blk_cell BK181.out 10).trans rfl,(blk_cell BK181.out 11).trans rfl,(blk_cell BK181.out 12).trans rfl,(blk_cell BK181.out 13).trans rfl,(blk_cell BK181.out 14).trans rfl,(blk_cell BK181.out 15).trans rfl⟩ (fun hHeld => ?_); refine with_tabW spec_WorkerOK.tab8 spec_WorkerOK.bits8 (fun HT_ HW_ => ?_)
        generalize wr.drew = w87 at BK181 HB hHeld ⊢
        refine pV_ 0 32 (bm 69 1) HT_.out ?_
        refine take_ (i:=1) (N:=some 33) (v:=?_) (a':=?_) (bm 69 3) rfl rfl (take_ofW HT_.out HW_.out (by kernel_rfl)) (fun _ _ _ h => h) (Or.inl ⟨by rfl,?_⟩) hHeld ?_ ?_
        rotate_left
        ·rintro w' ⟨s0,s1,s2,s3,s4,s5,s6,s7,s8,s9,s10,s11,s12,s13,s14,s15⟩
         go_simp
         with_reducible rfl
        rotate_left
        ·simp only [Act.put,setIfInBounds_toArray,set_cons_zero,set_cons_succ,i64_w,i32_w]
         rfl
        refine one_ (i:=2) (N:=some 34) (bm 69 7) rfl rfl (one_of HT_.out (by kernel_rfl)) (by decide) (fun K hK => ?_)
        refine goes_ Tryd.func46 (by kernel_rfl) rfl #[.int .i64 a0_0,.int .i64 0,.int .i64 9] (by rfl) rfl rfl mA ?_
        with_reducible refine (spec_l01In.calls a0_0 0 9 true _ A18.out).mono ?_
        rintro e w' ⟨rfl,⟨nd,rfl⟩⟩
        refine ⟨_,rfl,?_⟩
        refine hK.out _ _ ⟨(blk_cell BK181.out 0).trans rfl,(blk_cell BK181.out 1).trans rfl,(blk_cell BK181.out 2).trans rfl,(blk_cell BK181.out 3).trans rfl,(blk_cell BK181.out 4).trans rfl,(blk_cell BK181.out 5).trans rfl,(blk_cell BK181.out 6).trans rfl,(blk_cell BK181.out 7).trans rfl,(blk_cell BK181.out 8).trans rfl,(blk_cell BK181.out 9).trans rfl,(blk_cell BK181.out 10).trans rfl,(blk_cell BK181.out 11).trans rfl,(blk_cell BK181.out 12).trans rfl,(blk_cell BK181.out 13).trans rfl,(blk_cell BK181.out 14).trans rfl,(blk_cell BK181.out 15).trans rfl⟩ (fun hHeld => ?_)
        clear hK K
        refine norm_ (a':=?_) ?_ ?_
        rotate_left
        ·show Act.put _ (some 34) _ = _
         simp only [Act.put,setIfInBounds_toArray,set_cons_zero,set_cons_succ,i64_w,i32_w]
         rfl
        refine pV_ 3 35 (bm 69 15) HT_.out ?_
        refine pV_ 4 36 (bm 69 31) HT_.out ?_
        refine take_ (i:=5) (N:=some 37) (v:=?_) (a':=?_) (bm 69 63) rfl rfl (take_ofW HT_.out HW_.out (by kernel_rfl)) (fun _ _ _ h => h) (Or.inl ⟨by rfl,?_⟩) hHeld ?_ ?_
        rotate_left
        ·rintro w' ⟨s0,s1,s2,s3,s4,s5,s6,s7,s8,s9,s10,s11,s12,s13,s14,s15⟩
         go_simp
         with_reducible rfl
        rotate_left
        ·simp only [Act.put,setIfInBounds_toArray,set_cons_zero,set_cons_succ,i64_w,i32_w]
         rfl
        refine one_ (i:=6) (N:=some 38) (bm 69 127) rfl rfl (one_of HT_.out (by kernel_rfl)) (by decide) (fun K hK => ?_)
        refine goes_ Tryd.func46 (by kernel_rfl) rfl #[.int .i64 a0_1,.int .i64 0,.int .i64 7] (by rfl) rfl rfl mA ?_
        with_reducible refine (spec_l01In.calls a0_1 0 7 true _ A20.out).mono ?_
        rintro e w' ⟨rfl,⟨nd,rfl⟩⟩
        refine ⟨_,rfl,?_⟩
        refine hK.out _ _ ⟨(blk_cell BK181.out 0).trans rfl,(blk_cell BK181.out 1).trans rfl,(blk_cell BK181.out 2).trans rfl,(blk_cell BK181.out 3).trans rfl,(blk_cell BK181.out 4).trans rfl,(blk_cell BK181.out 5).trans rfl,(blk_cell BK181.out 6).trans rfl,(blk_cell BK181.out 7).trans rfl,(blk_cell BK181.out 8).trans rfl,(blk_cell BK181.out 9).trans rfl,(blk_cell BK181.out 10).trans rfl,(blk_cell BK181.out 11).trans rfl,(blk_cell BK181.out 12).trans rfl,(blk_cell BK181.out 13).trans rfl,(blk_cell BK181.out 14).trans rfl,(blk_cell BK181.out 15).trans rfl⟩ (fun hHeld => ?_)
        clear hK K
        refine norm_ (a':=?_) ?_ ?_
        rotate_left
        ·show Act.put _ (some 38) _ = _
         simp only [Act.put,setIfInBounds_toArray,set_cons_zero,set_cons_succ,i64_w,i32_w]
         rfl
        refine pV_ 7 39 (bm 69 255) HT_.out ?_
        refine pV_ 8 40 (bm 69 511) HT_.out ?_
        refine pV_ 9 41 (bm 69 1023) HT_.out ?_
        refine pV_ 11 43 (bm 69 3071) HT_.out ?_
        refine take_ (i:=10) (N:=some 42) (v:=?_) (a':=?_) (bm 69 4095) rfl rfl (take_ofW HT_.out HW_.out (by kernel_rfl)) (fun _ _ _ h => h) (Or.inl ⟨by rfl,?_⟩) hHeld ?_ ?_
        rotate_left
        ·rintro w' ⟨s0,s1,s2,s3,s4,s5,s6,s7,s8,s9,s10,s11,s12,s13,s14,s15⟩
         go_simp
         with_reducible rfl
        rotate_left
        ·simp only [Act.put,setIfInBounds_toArray,set_cons_zero,set_cons_succ,i64_w,i32_w]
         rfl
        refine take_ (i:=12) (N:=some 44) (v:=?_) (a':=?_) (bm 69 8191) rfl rfl (take_ofW HT_.out HW_.out (by kernel_rfl)) (fun _ _ _ h => h) (Or.inl ⟨by rfl,?_⟩) hHeld ?_ ?_
        rotate_left
        ·rintro w' ⟨s0,s1,s2,s3,s4,s5,s6,s7,s8,s9,s10,s11,s12,s13,s14,s15⟩
         go_simp
         with_reducible rfl
        rotate_left
        ·simp only [Act.put,setIfInBounds_toArray,set_cons_zero,set_cons_succ,i64_w,i32_w]
         rfl
        refine pV_ 13 45 (bm 69 16383) HT_.out ?_
        refine one_ (i:=14) (N:=some 46) (bm 69 32767) rfl rfl (one_of HT_.out (by kernel_rfl)) (by decide) (fun K hK => ?_)
        refine goes_ Tryd.func47 (by kernel_rfl) rfl #[.bool (decide (a0_1 > 1))] (by rfl) rfl rfl mA ?_
        with_reducible refine (spec_l01Bit.calls (decide (a0_1 > 1)) t188 _ A22.out).mono ?_
        rintro e w' ⟨rfl,⟨nd,rfl⟩⟩
        refine ⟨_,rfl,?_⟩
        refine hK.out _ _ ⟨(blk_cell BK181.out 0).trans rfl,(blk_cell BK181.out 1).trans rfl,(blk_cell BK181.out 2).trans rfl,(blk_cell BK181.out 3).trans rfl,(blk_cell BK181.out 4).trans rfl,(blk_cell BK181.out 5).trans rfl,(blk_cell BK181.out 6).trans rfl,(blk_cell BK181.out 7).trans rfl,(blk_cell BK181.out 8).trans rfl,(blk_cell BK181.out 9).trans rfl,(blk_cell BK181.out 10).trans rfl,(blk_cell BK181.out 11).trans rfl,(blk_cell BK181.out 12).trans rfl,(blk_cell BK181.out 13).trans rfl,(blk_cell BK181.out 14).trans rfl,(blk_cell BK181.out 15).trans rfl⟩ (fun hHeld => ?_)
        clear hK K
        refine norm_ (a':=?_) ?_ ?_
        rotate_left
        ·show Act.put _ (some 46) _ = _
         simp only [Act.put,setIfInBounds_toArray,set_cons_zero,set_cons_succ,i64_w,i32_w]
         rfl
        refine one_ (i:=15) (N:=some 47) (bm 69 65535) rfl rfl (one_of HT_.out (by kernel_rfl)) (by decide) (fun K hK => ?_)
        refine goes_ Tryd.func46 (by kernel_rfl) rfl #[.int .i64 a0_2,.int .i64 t188,.int .i64 999999] (by rfl) rfl rfl mA ?_
        with_reducible refine (spec_l01In.calls a0_2 t188 999999 false _ A23.out).mono ?_
        rintro e w' ⟨rfl,⟨nd,rfl⟩⟩
        refine ⟨_,rfl,?_⟩
        refine hK.out _ _ ⟨(blk_cell BK181.out 0).trans rfl,(blk_cell BK181.out 1).trans rfl,(blk_cell BK181.out 2).trans rfl,(blk_cell BK181.out 3).trans rfl,(blk_cell BK181.out 4).trans rfl,(blk_cell BK181.out 5).trans rfl,(blk_cell BK181.out 6).trans rfl,(blk_cell BK181.out 7).trans rfl,(blk_cell BK181.out 8).trans rfl,(blk_cell BK181.out 9).trans rfl,(blk_cell BK181.out 10).trans rfl,(blk_cell BK181.out 11).trans rfl,(blk_cell BK181.out 12).trans rfl,(blk_cell BK181.out 13).trans rfl,(blk_cell BK181.out 14).trans rfl,(blk_cell BK181.out 15).trans rfl⟩ (fun hHeld => ?_)
        clear hK K
        refine norm_ (a':=?_) ?_ ?_
        rotate_left
        ·show Act.put _ (some 47) _ = _
         simp only [Act.put,setIfInBounds_toArray,set_cons_zero,set_cons_succ,i64_w,i32_w]
         rfl
        refine pV_ 16 48 (bm 69 131071) HT_.out ?_
        refine pV_ 17 49 (bm 69 262143) HT_.out ?_
        refine pU_ 18 50 (bm 69 524287) HT_.out ?_
        refine pU_ 19 51 (bm 69 1048575) HT_.out ?_
        refine pU_ 20 52 (bm 69 2097151) HT_.out ?_
        refine pU_ 21 53 (bm 69 4194303) HT_.out ?_
        refine pU_ 22 54 (bm 69 8388607) HT_.out ?_
        refine pU_ 23 55 (bm 69 16777215) HT_.out ?_
        refine pU_ 24 56 (bm 69 33554431) HT_.out ?_
        refine pU_ 25 57 (bm 69 67108863) HT_.out ?_
        refine pU_ 26 58 (bm 69 134217727) HT_.out ?_
        refine pU_ 27 59 (bm 69 268435455) HT_.out ?_
        refine pU_ 28 60 (bm 69 536870911) HT_.out ?_
        refine pU_ 29 61 (bm 69 1073741823) HT_.out ?_
        refine pU_ 30 62 (bm 69 2147483647) HT_.out ?_
        refine pU_ 31 63 (bm 69 4294967295) HT_.out ?_
        refine pU_ 32 64 (bm 69 8589934591) HT_.out ?_
        refine pU_ 33 65 (bm 69 17179869183) HT_.out ?_
        refine pU_ 34 66 (bm 69 34359738367) HT_.out ?_
        refine pU_ 35 67 (bm 69 68719476735) HT_.out ?_
        refine pU_ 36 68 (bm 69 137438953471) HT_.out ?_
        refine pU_ 37 69 (bm 69 274877906943) HT_.out ?_
        refine pU_ 38 70 (bm 69 549755813887) HT_.out ?_
        refine pU_ 39 71 (bm 69 1099511627775) HT_.out ?_
        refine pU_ 40 72 (bm 69 2199023255551) HT_.out ?_
        refine pU_ 41 73 (bm 69 4398046511103) HT_.out ?_
        refine pU_ 42 74 (bm 69 8796093022207) HT_.out ?_
        refine pU_ 43 75 (bm 69 17592186044415) HT_.out ?_
        refine pU_ 44 76 (bm 69 35184372088831) HT_.out ?_
        refine pU_ 45 77 (bm 69 70368744177663) HT_.out ?_
        refine pU_ 46 78 (bm 69 140737488355327) HT_.out ?_
        refine pU_ 47 79 (bm 69 281474976710655) HT_.out ?_
        refine pU_ 48 80 (bm 69 562949953421311) HT_.out ?_
        refine pU_ 49 81 (bm 69 1125899906842623) HT_.out ?_
        refine pV_ 50 82 (bm 69 2251799813685247) HT_.out ?_
        refine pV_ 51 83 (bm 69 4503599627370495) HT_.out ?_
        refine pU_ 52 84 (bm 69 9007199254740991) HT_.out ?_
        refine pU_ 53 85 (bm 69 18014398509481983) HT_.out ?_
        refine pU_ 54 86 (bm 69 36028797018963967) HT_.out ?_
        refine pV_ 55 87 (bm 69 72057594037927935) HT_.out ?_
        refine pV_ 56 88 (bm 69 144115188075855871) HT_.out ?_
        refine pU_ 57 89 (bm 69 288230376151711743) HT_.out ?_
        refine pU_ 58 90 (bm 69 576460752303423487) HT_.out ?_
        refine pU_ 59 91 (bm 69 1152921504606846975) HT_.out ?_
        refine pU_ 60 92 (bm 69 2305843009213693951) HT_.out ?_
        refine pV_ 61 93 (bm 69 4611686018427387903) HT_.out ?_
        refine pV_ 62 94 (bm 69 9223372036854775807) HT_.out ?_
        refine pU_ 63 95 (bm 69 18446744073709551615) HT_.out ?_
        refine pU_ 64 96 (bm 69 36893488147419103231) HT_.out ?_
        refine pU_ 65 97 (bm 69 73786976294838206463) HT_.out ?_
        refine pU_ 66 98 (bm 69 147573952589676412927) HT_.out ?_
        refine pV_ 67 99 (bm 69 295147905179352825855) HT_.out ?_
        refine pV_ 68 2 (bm 69 590295810358705651711) HT_.out ?_
        refine done_ (done_of HT_.out (by kernel_rfl)) ?_
        try go_wp2
        go_ret
        exact ⟨by first | rfl | (simp only [i64_w,i32_w] <;> rfl) | (simp [errW_none,errW_some] <;> rfl) | (simp [*,errW_none,errW_some] <;> rfl),bA⟩
      ·replace c21 := Bool.eq_false_iff.mpr c21
       subst c21
       rw [if_neg (show ¬ (false = true) by decide)] at H
       obtain rfl := Option.some.inj H
       have hcz88_0 : wr.cell? ⟨gb181,0,none⟩ = some (.int .i64 a0_0) := (blk_cell BK181.out 0).trans rfl
       have hcz88_1 : wr.cell? ⟨gb181,1,none⟩ = some (.int .i64 a0_1) := (blk_cell BK181.out 1).trans rfl
       have hcz88_2 : wr.cell? ⟨gb181,2,none⟩ = some (.int .i64 a0_2) := (blk_cell BK181.out 2).trans rfl
       have hcz88_3 : wr.cell? ⟨gb181,3,none⟩ = some (.int .i64 a0_3) := (blk_cell BK181.out 3).trans rfl
       have hcz88_4 : wr.cell? ⟨gb181,4,none⟩ = some (.int .i64 a0_4) := (blk_cell BK181.out 4).trans rfl
       have hcz88_5 : wr.cell? ⟨gb181,5,none⟩ = some (.int .i64 a0_5) := (blk_cell BK181.out 5).trans rfl
       have hcz88_6 : wr.cell? ⟨gb181,6,none⟩ = some (.int .i64 a0_6) := (blk_cell BK181.out 6).trans rfl
       have hcz88_7 : wr.cell? ⟨gb181,7,none⟩ = some (.int .i64 a0_7) := (blk_cell BK181.out 7).trans rfl
       have hcz88_8 : wr.cell? ⟨gb181,8,none⟩ = some (.string a0_8) := (blk_cell BK181.out 8).trans rfl
       have hcz88_9 : wr.cell? ⟨gb181,9,none⟩ = some (.slice A0_9 l0_9.length c0_9) := (blk_cell BK181.out 9).trans rfl
       have hcz88_10 : wr.cell? ⟨gb181,10,none⟩ = some (.int .i64 a0_10) := (blk_cell BK181.out 10).trans rfl
       have hcz88_11 : wr.cell? ⟨gb181,11,none⟩ = some (.int .i64 a0_11) := (blk_cell BK181.out 11).trans rfl
       have hcz88_12 : wr.cell? ⟨gb181,12,none⟩ = some (.int .i64 a0_12) := (blk_cell BK181.out 12).trans rfl
       have hcz88_13 : wr.cell? ⟨gb181,13,none⟩ = some (.int .i64 a0_13) := (blk_cell BK181.out 13).trans rfl
       have hcz88_14 : wr.cell? ⟨gb181,14,none⟩ = some (.int .i64 a0_14) := (blk_cell BK181.out 14).trans rfl
       have hcz88_15 : wr.cell? ⟨gb181,15,none⟩ = some (.int .i64 a0_15) := (blk_cell BK181.out 15).trans rfl
       have hfz88_0 := blk_frozen BK181.out 0
       have hfz88_1 := blk_frozen BK181.out 1
       have hfz88_2 := blk_frozen BK181.out 2
       have hfz88_3 := blk_frozen BK181.out 3
       have hfz88_4 := blk_frozen BK181.out 4
       have hfz88_5 := blk_frozen BK181.out 5
       have hfz88_6 := blk_frozen BK181.out 6
       have hfz88_7 := blk_frozen BK181.out 7
       have hfz88_8 := blk_frozen BK181.out 8
       have hfz88_9 := blk_frozen BK181.out 9
       have hfz88_10 := blk_frozen BK181.out 10
       have hfz88_11 := blk_frozen BK181.out 11
       have hfz88_12 := blk_frozen BK181.out 12
       have hfz88_13 := blk_frozen BK181.out 13
       have hfz88_14 := blk_frozen BK181.out 14
       have hfz88_15 := blk_frozen BK181.out 15
       try go_wp2_with (first | ((with_reducible refine gate_callee (f:=46) rfl ?_); refine goesL_ (some 31) rfl rfl Tryd.func46 (by kernel_rfl) rfl #[.int .i64 a0_1,.int .i64 4,.int .i64 6] rfl mA ?_; (with_reducible refine (spec_l01In.calls a0_1 4 6 t185 _ A17.out).mono ?_); rintro e w' ⟨rfl,⟨nd,rfl⟩⟩; refine ⟨_,rfl,?_⟩))
       (try (rw [drewN_self wr]; generalize hq_ : World.drewN wr _ = wr; have n0_ : Aside0 (wr.heap[gb181]? = some (.cells #[.int .i64 a0_0,.int .i64 a0_1,.int .i64 a0_2,.int .i64 a0_3,.int .i64 a0_4,.int .i64 a0_5,.int .i64 a0_6,.int .i64 a0_7,.string a0_8,.slice A0_9 l0_9.length c0_9,.int .i64 a0_10,.int .i64 a0_11,.int .i64 a0_12,.int .i64 a0_13,.int .i64 a0_14,.int .i64 a0_15] 51 (0,0))) := ⟨by rw [← hq_]; exact (kA BK181.out)⟩; have n1_ : Aside0 (Below w.heap.size w wr) := ⟨by rw [← hq_]; exact bA⟩; clear BK181 HB hq_; have BK181 := n0_; have HB := n1_; clear n0_ n1_))
       have n0_ := Aside0.mk (blk_drew BK181.out)
       have n1_ := Aside0.mk (below_drew1 HB.out)
       clear BK181
       clear HB
       have BK181 := n0_
       have HB := n1_
       clear n0_ n1_
       refine start_ (n:=69) (S:=fun w' => w'.cell? ⟨gb181,0,none⟩ = some (.int .i64 a0_0) ∧ w'.cell? ⟨gb181,1,none⟩ = some (.int .i64 a0_1) ∧ w'.cell? ⟨gb181,2,none⟩ = some (.int .i64 a0_2) ∧ w'.cell? ⟨gb181,3,none⟩ = some (.int .i64 a0_3) ∧ w'.cell? ⟨gb181,4,none⟩ = some (.int .i64 a0_4) ∧ w'.cell? ⟨gb181,5,none⟩ = some (.int .i64 a0_5) ∧ w'.cell? ⟨gb181,6,none⟩ = some (.int .i64 a0_6) ∧ w'.cell? ⟨gb181,7,none⟩ = some (.int .i64 a0_7) ∧ w'.cell? ⟨gb181,8,none⟩ = some (.string a0_8) ∧ w'.cell? ⟨gb181,9,none⟩ = some (.slice A0_9 l0_9.length c0_9) ∧ w'.cell? ⟨gb181,10,none⟩ = some (.int .i64 a0_10) ∧ w'.cell? ⟨gb181,11,none⟩ = some (.int .i64 a0_11) ∧ w'.cell? ⟨gb181,12,none⟩ = some (.int .i64 a0_12) ∧ w'.cell? ⟨gb181,13,none⟩ = some (.int .i64 a0_13) ∧ w'.cell? ⟨gb181,14,none⟩ = some (.int .i64 a0_14) ∧ w'.cell? ⟨gb181,15,none⟩ = some (.int .i64 a0_15)) (ds := []) (bm 69 0) (by kernel_rfl) rfl rfl ⟨(blk_cell BK181.out 0).trans rfl,(blk_cell BK181.out 1).trans rfl,(blk_cell BK181.out 2).trans rfl,(blk_cell BK181.out 3).trans rfl,(blk_cell BK181.out 4).trans rfl,(blk_cell BK181.out 5).trans rfl,(blk_cell BK181.out 6).trans rfl,(blk_cell BK181.out 7).trans rfl,(blk_cell BK181.out 8).trans rfl,(blk_cell BK181.out 9).trans rfl,(blk_cell BK181.out 10).trans rfl,(blk_cell BK181.out 11).trans rfl,(blk_cell BK181.out 12).trans rfl,(blk_cell BK181.out 13).trans rfl,(blk_cell BK181.out 14).trans rfl,(blk_cell BK181.out 15).trans rfl⟩ (fun hHeld => ?_); refine with_tabW spec_WorkerOK.tab8 spec_WorkerOK.bits8 (fun HT_ HW_ => ?_)
       generalize wr.drew = w89 at BK181 HB hHeld ⊢
       refine pV_ 0 32 (bm 69 1) HT_.out ?_
       refine take_ (i:=1) (N:=some 33) (v:=?_) (a':=?_) (bm 69 3) rfl rfl (take_ofW HT_.out HW_.out (by kernel_rfl)) (fun _ _ _ h => h) (Or.inl ⟨by rfl,?_⟩) hHeld ?_ ?_
       rotate_left
       ·rintro w' ⟨s0,s1,s2,s3,s4,s5,s6,s7,s8,s9,s10,s11,s12,s13,s14,s15⟩
        go_simp
        with_reducible rfl
       rotate_left
       ·simp only [Act.put,setIfInBounds_toArray,set_cons_zero,set_cons_succ,i64_w,i32_w]
        rfl
       refine one_ (i:=2) (N:=some 34) (bm 69 7) rfl rfl (one_of HT_.out (by kernel_rfl)) (by decide) (fun K hK => ?_)
       refine goes_ Tryd.func46 (by kernel_rfl) rfl #[.int .i64 a0_0,.int .i64 0,.int .i64 9] (by rfl) rfl rfl mA ?_
       with_reducible refine (spec_l01In.calls a0_0 0 9 true _ A18.out).mono ?_
       rintro e w' ⟨rfl,⟨nd,rfl⟩⟩
       refine ⟨_,rfl,?_⟩
       refine hK.out _ _ ⟨(blk_cell BK181.out 0).trans rfl,(blk_cell BK181.out 1).trans rfl,(blk_cell BK181.out 2).trans rfl,(blk_cell BK181.out 3).trans rfl,(blk_cell BK181.out 4).trans rfl,(blk_cell BK181.out 5).trans rfl,(blk_cell BK181.out 6).trans rfl,(blk_cell BK181.out 7).trans rfl,(blk_cell BK181.out 8).trans rfl,(blk_cell BK181.out 9).trans rfl,(blk_cell BK181.out 10).trans rfl,(blk_cell BK181.out 11).trans rfl,(blk_cell BK181.out 12).trans rfl,(blk_cell BK181.out 13).trans rfl,(blk_cell BK181.out 14).trans rfl,(blk_cell BK181.out 15).trans rfl⟩ (fun hHeld => ?_)
       clear hK K
       refine norm_ (a':=?_) ?_ ?_
       rotate_left
       ·show Act.put _ (some 34) _ = _
        simp only [Act.put,setIfInBounds_toArray,set_cons_zero,set_cons_succ,i64_w,i32_w]
        rfl
       refine pV_ 3 35 (bm 69 15) HT_.out ?_
       refine pV_ 4 36 (bm 69 31) HT_.out ?_
       refine take_ (i:=5) (N:=some 37) (v:=?_) (a':=?_) (bm 69 63) rfl rfl (take_ofW HT_.out HW_.out (by kernel_rfl)) (fun _ _ _ h => h) (Or.inl ⟨by rfl,?_⟩) hHeld ?_ ?_
       rotate_left
       ·rintro w' ⟨s0,s1,s2,s3,s4,s5,s6,s7,s8,s9,s10,s11,s12,s13,s14,s15⟩
        go_simp
        with_reducible rfl
       rotate_left
       ·simp only [Act.put,setIfInBounds_toArray,set_cons_zero,set_cons_succ,i64_w,i32_w]
        rfl
       refine one_ (i:=6) (N:=some 38) (bm 69 127) rfl rfl (one_of HT_.out (by kernel_rfl)) (by decide) (fun K hK => ?_)
       refine goes_ Tryd.func46 (by kernel_rfl) rfl #[.int .i64 a0_1,.int .i64 0,.int .i64 7] (by rfl) rfl rfl mA ?_
       with_reducible refine (spec_l01In.calls a0_1 0 7 false _ A20.out).mono ?_
       rintro e w' ⟨rfl,⟨nd,rfl⟩⟩
       refine ⟨_,rfl,?_⟩
       refine hK.out _ _ ⟨(blk_cell BK181.out 0).trans rfl,(blk_cell BK181.out 1).trans rfl,(blk_cell BK181.out 2).trans rfl,(blk_cell BK181.out 3).trans rfl,(blk_cell BK181.out 4).trans rfl,(blk_cell BK181.out 5).trans rfl,(blk_cell BK181.out 6).trans rfl,(blk_cell BK181.out 7).trans rfl,(blk_cell BK181.out 8).trans rfl,(blk_cell BK181.out 9).trans rfl,(blk_cell BK181.out 10).trans rfl,(blk_cell BK181.out 11).trans rfl,(blk_cell BK181.out 12).trans rfl,(blk_cell BK181.out 13).trans rfl,(blk_cell BK181.out 14).trans rfl,(blk_cell BK181.out 15).trans rfl⟩ (fun hHeld => ?_)
       clear hK K
       refine norm_ (a':=?_) ?_ ?_
       rotate_left
       ·show Act.put _ (some 38) _ = _
        simp only [Act.put,setIfInBounds_toArray,set_cons_zero,set_cons_succ,i64_w,i32_w]
        rfl
       refine pV_ 7 39 (bm 69 255) HT_.out ?_
       refine pV_ 8 40 (bm 69 511) HT_.out ?_
       refine pU_ 9 41 (bm 69 1023) HT_.out ?_
       refine pU_ 10 42 (bm 69 2047) HT_.out ?_
       refine pU_ 11 43 (bm 69 4095) HT_.out ?_
       refine pU_ 12 44 (bm 69 8191) HT_.out ?_
       refine pU_ 13 45 (bm 69 16383) HT_.out ?_
       refine pU_ 14 46 (bm 69 32767) HT_.out ?_
       refine pU_ 15 47 (bm 69 65535) HT_.out ?_
       refine pV_ 16 48 (bm 69 131071) HT_.out ?_
       refine pV_ 17 49 (bm 69 262143) HT_.out ?_
       refine pU_ 18 50 (bm 69 524287) HT_.out ?_
       refine pU_ 19 51 (bm 69 1048575) HT_.out ?_
       refine pU_ 20 52 (bm 69 2097151) HT_.out ?_
       refine pU_ 21 53 (bm 69 4194303) HT_.out ?_
       refine pU_ 22 54 (bm 69 8388607) HT_.out ?_
       refine pU_ 23 55 (bm 69 16777215) HT_.out ?_
       refine pU_ 24 56 (bm 69 33554431) HT_.out ?_
       refine pU_ 25 57 (bm 69 67108863) HT_.out ?_
       refine pU_ 26 58 (bm 69 134217727) HT_.out ?_
       refine pU_ 27 59 (bm 69 268435455) HT_.out ?_
       refine pU_ 28 60 (bm 69 536870911) HT_.out ?_
       refine pU_ 29 61 (bm 69 1073741823) HT_.out ?_
       refine pU_ 30 62 (bm 69 2147483647) HT_.out ?_
       refine pU_ 31 63 (bm 69 4294967295) HT_.out ?_
       refine pU_ 32 64 (bm 69 8589934591) HT_.out ?_
       refine pU_ 33 65 (bm 69 17179869183) HT_.out ?_
       refine pU_ 34 66 (bm 69 34359738367) HT_.out ?_
       refine pU_ 35 67 (bm 69 68719476735) HT_.out ?_
       refine pU_ 36 68 (bm 69 137438953471) HT_.out ?_
       refine pU_ 37 69 (bm 69 274877906943) HT_.out ?_
       refine pU_ 38 70 (bm 69 549755813887) HT_.out ?_
       refine pU_ 39 71 (bm 69 1099511627775) HT_.out ?_
       refine pU_ 40 72 (bm 69 2199023255551) HT_.out ?_
       refine pU_ 41 73 (bm 69 4398046511103) HT_.out ?_
       refine pU_ 42 74 (bm 69 8796093022207) HT_.out ?_
       refine pU_ 43 75 (bm 69 17592186044415) HT_.out ?_
       refine pU_ 44 76 (bm 69 35184372088831) HT_.out ?_
       refine pU_ 45 77 (bm 69 70368744177663) HT_.out ?_
       refine pU_ 46 78 (bm 69 140737488355327) HT_.out ?_
       refine pU_ 47 79 (bm 69 281474976710655) HT_.out ?_
       refine pU_ 48 80 (bm 69 562949953421311) HT_.out ?_
       refine pU_ 49 81 (bm 69 1125899906842623) HT_.out ?_
       refine pV_ 50 82 (bm 69 2251799813685247) HT_.out ?_
       refine pV_ 51 83 (bm 69 4503599627370495) HT_.out ?_
       refine pU_ 52 84 (bm 69 9007199254740991) HT_.out ?_
       refine pU_ 53 85 (bm 69 18014398509481983) HT_.out ?_
       refine pU_ 54 86 (bm 69 36028797018963967) HT_.out ?_
       refine pV_ 55 87 (bm 69 72057594037927935) HT_.out ?_
       refine pV_ 56 88 (bm 69 144115188075855871) HT_.out ?_
       refine pU_ 57 89 (bm 69 288230376151711743) HT_.out ?_
       refine pU_ 58 90 (bm 69 576460752303423487) HT_.out ?_
       refine pU_ 59 91 (bm 69 1152921504606846975) HT_.out ?_
       refine pU_ 60 92 (bm 69 2305843009213693951) HT_.out ?_
       refine pV_ 61 93 (bm 69 4611686018427387903) HT_.out ?_
       refine pV_ 62 94 (bm 69 9223372036854775807) HT_.out ?_
       refine pU_ 63 95 (bm 69 18446744073709551615) HT_.out ?_
       refine pU_ 64 96 (bm 69 36893488147419103231) HT_.out ?_
       refine pU_ 65 97 (bm 69 73786976294838206463) HT_.out ?_
       refine pU_ 66 98 (bm 69 147573952589676412927) HT_.out ?_
       refine pV_ 67 99 (bm 69 295147905179352825855) HT_.out ?_
       refine pV_ 68 2 (bm 69 590295810358705651711) HT_.out ?_
       refine done_ (done_of HT_.out (by kernel_rfl)) ?_
       try go_wp2
       go_ret
       exact ⟨by first | rfl | (simp only [i64_w,i32_w] <;> rfl) | (simp [errW_none,errW_some] <;> rfl) | (simp [*,errW_none,errW_some] <;> rfl),bA⟩
     ·replace c19 := Bool.eq_false_iff.mpr c19
      subst c19
      rw [if_neg (show ¬ (false = true) by decide)] at H
      obtain rfl := Option.some.inj H
      have hcz90_0 : wr.cell? ⟨gb181,0,none⟩ = some (.int .i64 a0_0) := (blk_cell BK181.out 0).trans rfl
      have hcz90_1 : wr.cell? ⟨gb181,1,none⟩ = some (.int .i64 a0_1) := (blk_cell BK181.out 1).trans rfl
      have hcz90_2 : wr.cell? ⟨gb181,2,none⟩ = some (.int .i64 a0_2) := (blk_cell BK181.out 2).trans rfl
      have hcz90_3 : wr.cell? ⟨gb181,3,none⟩ = some (.int .i64 a0_3) := (blk_cell BK181.out 3).trans rfl
      have hcz90_4 : wr.cell? ⟨gb181,4,none⟩ = some (.int .i64 a0_4) := (blk_cell BK181.out 4).trans rfl
      have hcz90_5 : wr.cell? ⟨gb181,5,none⟩ = some (.int .i64 a0_5) := (blk_cell BK181.out 5).trans rfl
      have hcz90_6 : wr.cell? ⟨gb181,6,none⟩ = some (.int .i64 a0_6) := (blk_cell BK181.out 6).trans rfl
      have hcz90_7 : wr.cell? ⟨gb181,7,none⟩ = some (.int .i64 a0_7) := (blk_cell BK181.out 7).trans rfl
      have hcz90_8 : wr.cell? ⟨gb181,8,none⟩ = some (.string a0_8) := (blk_cell BK181.out 8).trans rfl
      have hcz90_9 : wr.cell? ⟨gb181,9,none⟩ = some (.slice A0_9 l0_9.length c0_9) := (blk_cell BK181.out 9).trans rfl
      have hcz90_10 : wr.cell? ⟨gb181,10,none⟩ = some (.int .i64 a0_10) := (blk_cell BK181.out 10).trans rfl
      have hcz90_11 : wr.cell? ⟨gb181,11,none⟩ = some (.int .i64 a0_11) := (blk_cell BK181.out 11).trans rfl
      have hcz90_12 : wr.cell? ⟨gb181,12,none⟩ = some (.int .i64 a0_12) := (blk_cell BK181.out 12).trans rfl
      have hcz90_13 : wr.cell? ⟨gb181,13,none⟩ = some (.int .i64 a0_13) := (blk_cell BK181.out 13).trans rfl
      have hcz90_14 : wr.cell? ⟨gb181,14,none⟩ = some (.int .i64 a0_14) := (blk_cell BK181.out 14).trans rfl
      have hcz90_15 : wr.cell? ⟨gb181,15,none⟩ = some (.int .i64 a0_15) := (blk_cell BK181.out 15).trans rfl
      have hfz90_0 := blk_frozen BK181.out 0
      have hfz90_1 := blk_frozen BK181.out 1
      have hfz90_2 := blk_frozen BK181.out 2
      have hfz90_3 := blk_frozen BK181.out 3
      have hfz90_4 := blk_frozen BK181.out 4
      have hfz90_5 := blk_frozen BK181.out 5
      have hfz90_6 := blk_frozen BK181.out 6
      have hfz90_7 := blk_frozen BK181.out 7
      have hfz90_8 := blk_frozen BK181.out 8
      have hfz90_9 := blk_frozen BK181.out 9
      have hfz90_10 := blk_frozen BK181.out 10
      have hfz90_11 := blk_frozen BK181.out 11
      have hfz90_12 := blk_frozen BK181.out 12
      have hfz90_13 := blk_frozen BK181.out 13
      have hfz90_14 := blk_frozen BK181.out 14
      have hfz90_15 := blk_frozen BK181.out 15
      try go_wp2_with (first | ((with_reducible refine gate_callee (f:=46) rfl ?_); refine goesL_ (some 31) rfl rfl Tryd.func46 (by kernel_rfl) rfl #[.int .i64 a0_1,.int .i64 4,.int .i64 6] rfl mA ?_; (with_reducible refine (spec_l01In.calls a0_1 4 6 t185 _ A17.out).mono ?_); rintro e w' ⟨rfl,⟨nd,rfl⟩⟩; refine ⟨_,rfl,?_⟩))
      (try (rw [drewN_self wr]; generalize hq_ : World.drewN wr _ = wr; have n0_ : Aside0 (wr.heap[gb181]? = some (.cells #[.int .i64 a0_0,.int .i64 a0_1,.int .i64 a0_2,.int .i64 a0_3,.int .i64 a0_4,.int .i64 a0_5,.int .i64 a0_6,.int .i64 a0_7,.string a0_8,.slice A0_9 l0_9.length c0_9,.int .i64 a0_10,.int .i64 a0_11,.int .i64 a0_12,.int .i64 a0_13,.int .i64 a0_14,.int .i64 a0_15] 51 (0,0))) := ⟨by rw [← hq_]; exact (kA BK181.out)⟩; have n1_ : Aside0 (Below w.heap.size w wr) := ⟨by rw [← hq_]; exact bA⟩; clear BK181 HB hq_; have BK181 := n0_; have HB := n1_; clear n0_ n1_))
      have n0_ := Aside0.mk (blk_drew BK181.out)
      have n1_ := Aside0.mk (below_drew1 HB.out)
      clear BK181
      clear HB
      have BK181 := n0_
      have HB := n1_
      clear n0_ n1_
      refine start_ (n:=69) (S:=fun w' => w'.cell? ⟨gb181,0,none⟩ = some (.int .i64 a0_0) ∧ w'.cell? ⟨gb181,1,none⟩ = some (.int .i64 a0_1) ∧ w'.cell? ⟨gb181,2,none⟩ = some (.int .i64 a0_2) ∧ w'.cell? ⟨gb181,3,none⟩ = some (.int .i64 a0_3) ∧ w'.cell? ⟨gb181,4,none⟩ = some (.int .i64 a0_4) ∧ w'.cell? ⟨gb181,5,none⟩ = some (.int .i64 a0_5) ∧ w'.cell? ⟨gb181,6,none⟩ = some (.int .i64 a0_6) ∧ w'.cell? ⟨gb181,7,none⟩ = some (.int .i64 a0_7) ∧ w'.cell? ⟨gb181,8,none⟩ = some (.string a0_8) ∧ w'.cell? ⟨gb181,9,none⟩ = some (.slice A0_9 l0_9.length c0_9) ∧ w'.cell? ⟨gb181,10,none⟩ = some (.int .i64 a0_10) ∧ w'.cell? ⟨gb181,11,none⟩ = some (.int .i64 a0_11) ∧ w'.cell? ⟨gb181,12,none⟩ = some (.int .i64 a0_12) ∧ w'.cell? ⟨gb181,13,none⟩ = some (.int .i64 a0_13) ∧ w'.cell? ⟨gb181,14,none⟩ = some (.int .i64 a0_14) ∧ w'.cell? ⟨gb181,15,none⟩ = some (.int .i64 a0_15)) (ds := []) (bm 69 0) (by kernel_rfl) rfl rfl ⟨(blk_cell BK181.out 0).trans rfl,(blk_cell BK181.out 1).trans rfl,(blk_cell BK181.out 2).trans rfl,(blk_cell BK181.out 3).trans rfl,(blk_cell BK181.out 4).trans rfl,(blk_cell BK181.out 5).trans rfl,(blk_cell BK181.out 6).trans rfl,(blk_cell BK181.out 7).trans rfl,(blk_cell BK181.out 8).trans rfl,(blk_cell BK181.out 9).trans rfl,(blk_cell BK181.out 10).trans rfl,(blk_cell BK181.out 11).trans rfl,(blk_cell BK181.out 12).trans rfl,(blk_cell BK181.out 13).trans rfl,(blk_cell BK181.out 14).trans rfl,(blk_cell BK181.out 15).trans rfl⟩ (fun hHeld => ?_); refine with_tabW spec_WorkerOK.tab8 spec_WorkerOK.bits8 (fun HT_ HW_ => ?_)
      generalize wr.drew = w91 at BK181 HB hHeld ⊢
      refine pV_ 0 32 (bm 69 1) HT_.out ?_
      refine take_ (i:=1) (N:=some 33) (v:=?_) (a':=?_) (bm 69 3) rfl rfl (take_ofW HT_.out HW_.out (by kernel_rfl)) (fun _ _ _ h => h) (Or.inl ⟨by rfl,?_⟩) hHeld ?_ ?_
      rotate_left
      ·rintro w' ⟨s0,s1,s2,s3,s4,s5,s6,s7,s8,s9,s10,s11,s12,s13,s14,s15⟩
       go_simp
       with_reducible rfl
      rotate_left
      ·simp only [Act.put,setIfInBounds_toArray,set_cons_zero,set_cons_succ,i64_w,i32_w]
       rfl
      refine one_ (i:=2) (N:=some 34) (bm 69 7) rfl rfl (one_of HT_.out (by kernel_rfl)) (by decide) (fun K hK => ?_)
      refine goes_ Tryd.func46 (by kernel_rfl) rfl #[.int .i64 a0_0,.int .i64 0,.int .i64 9] (by rfl) rfl rfl mA ?_
      with_reducible refine (spec_l01In.calls a0_0 0 9 false _ A18.out).mono ?_
      rintro e w' ⟨rfl,⟨nd,rfl⟩⟩
      refine ⟨_,rfl,?_⟩
      refine hK.out _ _ ⟨(blk_cell BK181.out 0).trans rfl,(blk_cell BK181.out 1).trans rfl,(blk_cell BK181.out 2).trans rfl,(blk_cell BK181.out 3).trans rfl,(blk_cell BK181.out 4).trans rfl,(blk_cell BK181.out 5).trans rfl,(blk_cell BK181.out 6).trans rfl,(blk_cell BK181.out 7).trans rfl,(blk_cell BK181.out 8).trans rfl,(blk_cell BK181.out 9).trans rfl,(blk_cell BK181.out 10).trans rfl,(blk_cell BK181.out 11).trans rfl,(blk_cell BK181.out 12).trans rfl,(blk_cell BK181.out 13).trans rfl,(blk_cell BK181.out 14).trans rfl,(blk_cell BK181.out 15).trans rfl⟩ (fun hHeld => ?_)
      clear hK K
      refine norm_ (a':=?_) ?_ ?_
      rotate_left
      ·show Act.put _ (some 34) _ = _
       simp only [Act.put,setIfInBounds_toArray,set_cons_zero,set_cons_succ,i64_w,i32_w]
       rfl
      refine pV_ 3 35 (bm 69 15) HT_.out ?_
      refine pU_ 4 36 (bm 69 31) HT_.out ?_
      refine pU_ 5 37 (bm 69 63) HT_.out ?_
      refine pU_ 6 38 (bm 69 127) HT_.out ?_
      refine pV_ 7 39 (bm 69 255) HT_.out ?_
      refine pV_ 8 40 (bm 69 511) HT_.out ?_
      refine pU_ 9 41 (bm 69 1023) HT_.out ?_
      refine pU_ 10 42 (bm 69 2047) HT_.out ?_
      refine pU_ 11 43 (bm 69 4095) HT_.out ?_
      refine pU_ 12 44 (bm 69 8191) HT_.out ?_
      refine pU_ 13 45 (bm 69 16383) HT_.out ?_
      refine pU_ 14 46 (bm 69 32767) HT_.out ?_
      refine pU_ 15 47 (bm 69 65535) HT_.out ?_
      refine pV_ 16 48 (bm 69 131071) HT_.out ?_
      refine pV_ 17 49 (bm 69 262143) HT_.out ?_
      refine pU_ 18 50 (bm 69 524287) HT_.out ?_
      refine pU_ 19 51 (bm 69 1048575) HT_.out ?_
      refine pU_ 20 52 (bm 69 2097151) HT_.out ?_
      refine pU_ 21 53 (bm 69 4194303) HT_.out ?_
      refine pU_ 22 54 (bm 69 8388607) HT_.out ?_
      refine pU_ 23 55 (bm 69 16777215) HT_.out ?_
      refine pU_ 24 56 (bm 69 33554431) HT_.out ?_
      refine pU_ 25 57 (bm 69 67108863) HT_.out ?_
      refine pU_ 26 58 (bm 69 134217727) HT_.out ?_
      refine pU_ 27 59 (bm 69 268435455) HT_.out ?_
      refine pU_ 28 60 (bm 69 536870911) HT_.out ?_
      refine pU_ 29 61 (bm 69 1073741823) HT_.out ?_
      refine pU_ 30 62 (bm 69 2147483647) HT_.out ?_
      refine pU_ 31 63 (bm 69 4294967295) HT_.out ?_
      refine pU_ 32 64 (bm 69 8589934591) HT_.out ?_
      refine pU_ 33 65 (bm 69 17179869183) HT_.out ?_
      refine pU_ 34 66 (bm 69 34359738367) HT_.out ?_
      refine pU_ 35 67 (bm 69 68719476735) HT_.out ?_
      refine pU_ 36 68 (bm 69 137438953471) HT_.out ?_
      refine pU_ 37 69 (bm 69 274877906943) HT_.out ?_
      refine pU_ 38 70 (bm 69 549755813887) HT_.out ?_
      refine pU_ 39 71 (bm 69 1099511627775) HT_.out ?_
      refine pU_ 40 72 (bm 69 2199023255551) HT_.out ?_
      refine pU_ 41 73 (bm 69 4398046511103) HT_.out ?_
      refine pU_ 42 74 (bm 69 8796093022207) HT_.out ?_
      refine pU_ 43 75 (bm 69 17592186044415) HT_.out ?_
      refine pU_ 44 76 (bm 69 35184372088831) HT_.out ?_
      refine pU_ 45 77 (bm 69 70368744177663) HT_.out ?_
      refine pU_ 46 78 (bm 69 140737488355327) HT_.out ?_
      refine pU_ 47 79 (bm 69 281474976710655) HT_.out ?_
      refine pU_ 48 80 (bm 69 562949953421311) HT_.out ?_
      refine pU_ 49 81 (bm 69 1125899906842623) HT_.out ?_
      refine pV_ 50 82 (bm 69 2251799813685247) HT_.out ?_
      refine pV_ 51 83 (bm 69 4503599627370495) HT_.out ?_
      refine pU_ 52 84 (bm 69 9007199254740991) HT_.out ?_
      refine pU_ 53 85 (bm 69 18014398509481983) HT_.out ?_
      refine pU_ 54 86 (bm 69 36028797018963967) HT_.out ?_
      refine pV_ 55 87 (bm 69 72057594037927935) HT_.out ?_
      refine pV_ 56 88 (bm 69 144115188075855871) HT_.out ?_
      refine pU_ 57 89 (bm 69 288230376151711743) HT_.out ?_
      refine pU_ 58 90 (bm 69 576460752303423487) HT_.out ?_
      refine pU_ 59 91 (bm 69 1152921504606846975) HT_.out ?_
      refine pU_ 60 92 (bm 69 2305843009213693951) HT_.out ?_
      refine pV_ 61 93 (bm 69 4611686018427387903) HT_.out ?_
      refine pV_ 62 94 (bm 69 9223372036854775807) HT_.out ?_
      refine pU_ 63 95 (bm 69 18446744073709551615) HT_.out ?_
      refine pU_ 64 96 (bm 69 36893488147419103231) HT_.out ?_
      refine pU_ 65 97 (bm 69 73786976294838206463) HT_.out ?_
      refine pU_ 66 98 (bm 69 147573952589676412927) HT_.out ?_
      refine pV_ 67 99 (bm 69 295147905179352825855) HT_.out ?_
      refine pV_ 68 2 (bm 69 590295810358705651711) HT_.out ?_
      refine done_ (done_of HT_.out (by kernel_rfl)) ?_
      try go_wp2
      go_ret
      exact ⟨by first | rfl | (simp only [i64_w,i32_w] <;> rfl) | (simp [errW_none,errW_some] <;> rfl) | (simp [*,errW_none,errW_some] <;> rfl),bA⟩

end Go.Proofs.YtleifhnoaaphmaaDoor.XFnExactWorkerOK
