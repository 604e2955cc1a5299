-- Printed by this session's own program wip/tools/xprint.py, which widens the kit's print. Not trusted: Lean checks it.
import Derived.Test.YtgkfemnfbkgeiaaXFnStorex0
import Derived.Test.YtgkfemnfbkgeiaaXFnStorex10
namespace Go.Proofs.Ytgkfemnfbkgeiaa.XFnStore
open List (setIfInBounds_toArray set_cons_zero set_cons_succ)
open Go.RowKit Go.Proofs.YtgkfemnfbkgeiaaW.PrintWords Go.Proofs.YtgkfemnfbkgeiaaW.PrintLast Go.Proofs.YtgkfemnfbkgeiaaW.PrintMore
attribute [local go_sem] max2_int min2_int max_two min_two max_three min_three max_four min_four   -- for this text's walks alone
set_option linter.unusedVariables false
set_option linter.unusedSimpArgs false

/-! ### spec_StoreOK: function 30 -/
mutual
def spec_StoreOK.l0 : Nat → Int → List (S32) → Int → Option (Bool)
 | 0,_,_,_ => none
 | k + 1,x3,x428000,x428001 => if x3 < (x428000.length : Int) then (if 0 ≤ x3 then ((spec_KeyOK.f k ((rd_T32 x428000 x3).f0)).bind fun t431 => (if t431 = true then ((spec_l01In.f ((rd_T32 x428000 x3).f1) 1 (wrap64 (x428001 - 1))).bind fun t432 => (if t432 = true then (if (((rd_T32 x428000 x3).f2).size : Int) > 600 then (spec_StoreOK.j1 k x3 true x428000 x428001 ((rd_T32 x428000 x3).f0) ((rd_T32 x428000 x3).f1) ((rd_T32 x428000 x3).f2)) else (if x3 > 0 then (if 0 ≤ (wrap64 (x3 - 1)) then (if (wrap64 (x3 - 1)) < (x428000.length : Int) then (spec_StoreOK.j1 k x3 (!(Op.bytesLess (((rd_T32 x428000 (wrap64 (x3 - 1))).f0).toList) (((rd_T32 x428000 x3).f0).toList))) x428000 x428001 ((rd_T32 x428000 x3).f0) ((rd_T32 x428000 x3).f1) ((rd_T32 x428000 x3).f2)) else (none)) else (none)) else (spec_StoreOK.j1 k x3 false x428000 x428001 ((rd_T32 x428000 x3).f0) ((rd_T32 x428000 x3).f1) ((rd_T32 x428000 x3).f2)))) else (spec_StoreOK.j1 k x3 true x428000 x428001 ((rd_T32 x428000 x3).f0) ((rd_T32 x428000 x3).f1) ((rd_T32 x428000 x3).f2)))) else (spec_StoreOK.j1 k x3 true x428000 x428001 ((rd_T32 x428000 x3).f0) ((rd_T32 x428000 x3).f1) ((rd_T32 x428000 x3).f2)))) else (none)) else (if (x428000.length : Int) ≤ 300 then ((spec_l01In.f x428001 1 1000000000).bind fun t428 => (some t428)) else (some false))
def spec_StoreOK.j1 : Nat → Int → Bool → List (S32) → Int → ByteArray → Int → ByteArray → Option (Bool)
 | 0,_,_,_,_,_,_,_ => none
 | k + 1,x3,x52,x428000,x428001,x431000,x431001,x431002 => if x52 = true then (some false) else (spec_StoreOK.l1 k x3 0 x428000 x428001 x431000 x431001 x431002)
def spec_StoreOK.l1 : Nat → Int → Int → List (S32) → Int → ByteArray → Int → ByteArray → Option (Bool)
 | 0,_,_,_,_,_,_,_ => none
 | k + 1,x3,x5,x428000,x428001,x431000,x431001,x431002 => if x5 < x3 then (if 0 ≤ x5 then (if x5 < (x428000.length : Int) then (if ((rd_T32 x428000 x5).f1) = x431001 then (some false) else (spec_StoreOK.l1 k x3 (wrap64 (x5 + 1)) x428000 x428001 x431000 x431001 x431002)) else (none)) else (none)) else (spec_StoreOK.l0 k (wrap64 (x3 + 1)) x428000 x428001)
end
def spec_StoreOK.f (k : Nat) (l0_0 : List (S32)) (a0_1 : Int) : Option (Bool) := spec_StoreOK.l0 k 0 l0_0 a0_1
theorem spec_StoreOK.mono_l : ∀ k,(∀ y0 y1 y2,LeO (spec_StoreOK.l0 k y0 y1 y2) (spec_StoreOK.l0 (k + 1) y0 y1 y2)) ∧ (∀ y0 y1 y2 y3 y4 y5 y6,LeO (spec_StoreOK.j1 k y0 y1 y2 y3 y4 y5 y6) (spec_StoreOK.j1 (k + 1) y0 y1 y2 y3 y4 y5 y6)) ∧ (∀ y0 y1 y2 y3 y4 y5 y6,LeO (spec_StoreOK.l1 k y0 y1 y2 y3 y4 y5 y6) (spec_StoreOK.l1 (k + 1) y0 y1 y2 y3 y4 y5 y6))
 | 0 => ⟨fun _ _ _ r h => by simp [spec_StoreOK.l0] at h,fun _ _ _ _ _ _ _ r h => by simp [spec_StoreOK.j1] at h,fun _ _ _ _ _ _ _ r h => by simp [spec_StoreOK.l1] at h⟩
 | k + 1 => by
  obtain ⟨ih0,ih1,ih2⟩ := spec_StoreOK.mono_l k
  refine ⟨?_,?_,?_⟩
  all_goals
   intros
   first | unfold spec_StoreOK.l0 | unfold spec_StoreOK.j1 | unfold spec_StoreOK.l1
   repeat' first
   | (with_reducible first | exact ih0 .. | exact ih1 .. | exact ih2 .. | exact spec_KeyOK.mono .. | exact LeO.refl _ | exact LeO.none _ | refine LeO.ite ?_ ?_ | refine LeO.bind ?_ (fun _ => ?_))
   | exact LeO.none _ | refine LeO.ite ?_ ?_ | refine LeO.bind ?_ (fun _ => ?_)
theorem spec_StoreOK.mono : ∀ a0 a1 k,LeO (spec_StoreOK.f k a0 a1) (spec_StoreOK.f (k + 1) a0 a1) := by
 intro a0 a1 k
 obtain ⟨ih0,ih1,ih2⟩ := spec_StoreOK.mono_l k
 unfold spec_StoreOK.f
 repeat' first
 | (with_reducible first | exact ih0 .. | exact ih1 .. | exact ih2 .. | exact spec_KeyOK.mono .. | exact LeO.refl _ | exact LeO.none _ | refine LeO.ite ?_ ?_ | refine LeO.bind ?_ (fun _ => ?_))
 | exact LeO.none _ | refine LeO.ite ?_ ?_ | refine LeO.bind ?_ (fun _ => ?_)
def spec_StoreOK.T5 : Bool × List (List Nat × List Nat) := (true,[([],[]),([0],[0]),([1],[1]),([2],[2]),([3,2],[3]),([4],[4]),([5,4],[4,5]),([4],[4]),([7,4],[4,7]),([8,4],[4,8]),([6,9,4,4],[4,6,9]),([10,4],[4,10]),([4,11],[4,11]),([12,10],[12]),([13],[13]),([14,13],[13,14]),([15,13],[13,15]),([16,13],[13,16]),([13,17],[13,17]),([18,13],[18]),([19],[19]),([20,19],[19,20]),([21,19,19],[19,21]),([22],[22]),([23,22],[22,23]),([22],[22]),([25,22],[22,25]),([24,26,22],[22,24,26]),([27,22],[22,27]),([28,22],[22,28]),([22],[22]),([30,22],[22,30]),([29,31,22],[22,29,31]),([22,32,19],[19,22,32]),([19,33],[19,33])])
def spec_StoreOK.B5 : List Nat := [0,1,3,7,15,31,63,31,159,415,1023,2047,4095,8191,16383,32767,65535,131071,262143,524287,1048575,2097151,4194303,8388607,16777215,8388607,41943039,134217727,268435455,536870911,8388607,1082130431,4294967295,8589934591,17179869183]
theorem spec_StoreOK.tab5 : rtab .any (opsOf Try.f30 5) = spec_StoreOK.T5 := by kernel_rfl
theorem spec_StoreOK.bits5 : waitsOk spec_StoreOK.T5.2 spec_StoreOK.B5 = true := by kernel_rfl
def spec_StoreOK.T10 : Bool × List (List Nat × List Nat) := (true,[([],[]),([0],[0]),([],[]),([1,2],[1,2]),([3],[3]),([4],[4]),([],[]),([6],[6]),([5,7],[5,7])])
def spec_StoreOK.B10 : List Nat := [0,1,0,7,15,31,0,64,255]
theorem spec_StoreOK.tab10 : rtab .any (opsOf Try.f30 10) = spec_StoreOK.T10 := by kernel_rfl
theorem spec_StoreOK.bits10 : waitsOk spec_StoreOK.T10.2 spec_StoreOK.B10 = true := by kernel_rfl
set_option maxHeartbeats 8000000 in
set_option maxRecDepth 100000 in
theorem spec_StoreOK.calls (k : Nat) (A0_0 : Option Addr) (c0_0 : Nat) (l0_0 : List (S32)) (a0_1 : Int) (r : Bool) (w : World) (hr0_0 : Kd.C k32 w A0_0 l0_0.length l0_0) (hc0_0 : l0_0.length ≤ c0_0) (h : spec_StoreOK.f k l0_0 a0_1 = some r) :
  Calls Try.prog 30 #[.agg #[.slice A0_0 l0_0.length c0_0,.int .i64 a0_1]] w fun e w' => e = .returned (.bool r) ∧ Below w.heap.size w w' := by
 have hu25 := Try.underlying25
 have hu32 := Try.underlying32
 have HR0_0 := Aside0.mk hr0_0
 have HC0_0 := Aside0.mk hc0_0
 clear hr0_0 hc0_0
 have HB := Aside0.mk (Below.refl w.heap.size w)
 have H : (spec_StoreOK.l0 k 0 l0_0 a0_1) = some r := h
 clear h
 have H' := Aside0.mk H
 clear H
 go_enter Try.func30,Try.ntmps30
 go_wp2_with (first | ((with_reducible refine gate_dst (N:=1) rfl ?_); (try (refine gate_guard (by rfl) ?_; dsimp only)); refine bxe (N:=1) (cs := #[.slice A0_0 l0_0.length c0_0,.int .i64 a0_1]) (t:=25) ?_; intro gb427 hg w2 hbox hb; have BK427 := Aside0.mk (hbox); have GW427 := Aside0.mk ((gw hg : w.heap.size ≤ gb427)); have GE427 := GW427; replace HB := bsA hb; clear hb hbox hg))
 go_loopg [3] k (fun kq v3 w' => ∃ (x3_1 : Int),v3 = .int .i64 x3_1 ∧ Aside0 (spec_StoreOK.l0 kq x3_1 l0_0 a0_1 = some r) ∧ Aside0 (kq ≤ k) ∧ Aside0 (w'.heap[gb427]? = some (.cells #[(.slice A0_0 l0_0.length c0_0),.int .i64 a0_1] 25 (0,0))) ∧ Aside0 (Below w.heap.size w w'))
 case atStart => exact ⟨(0),(by first | rfl | (simp; done) | (simp [*]; done)),H',⟨Nat.le_refl _⟩,⟨kA BK427.out⟩,⟨bA⟩⟩
 case round =>
  clear H'
  try clear p2
  obtain ⟨x3_1,rfl,HA,HK1,BK427,HB⟩ := hrel
  cases gk with
  | zero => exact absurd HA.out (by simp [spec_StoreOK.l0])
  | succ k1 =>
   have H := HA.out
   clear HA
   simp only [spec_StoreOK.l0] at H
   by_cases c3 : x3_1 < (l0_0.length : Int)
   ·rw [if_pos c3] at H
    have c3b0 : decide (x3_1 < (l0_0.length : Int)) = true := decide_eq_true c3
    clear c3
    by_cases c4 : 0 ≤ x3_1
    ·rw [if_pos c4] at H
     have c4b0 : decide (0 ≤ x3_1) = true := decide_eq_true c4
     clear c4
     have HC5 := Aside0.mk H
     clear H
     obtain ⟨hcz6_0,hcz6_1⟩ := cl2 BK427.out
     obtain ⟨hfz6_0,hfz6_1⟩ := fz2 BK427.out
     have p429 : 0 ≤ (x3_1 : Int) := od
     have q429 : x3_1 < (l0_0.length : Int) := od
     obtain ⟨ad429,e429,hx429_0,hx429_1,hx429_2⟩ := at_T32 HR0_0.out x3_1 p429 q429
     cases e429
     replace hx429_0 := cb HB.out hx429_0
     replace hx429_1 := cb HB.out hx429_1
     replace hx429_2 := cb HB.out hx429_2
     replace p429 := eq_true p429
     replace q429 := eq_true q429
     go_upto_region 5 with (first | ((with_reducible refine gate_dst (N:=4) rfl ?_); (try (refine gate_guard (by rfl) ?_; dsimp only)); refine bxe (N:=4) (cs := #[.string (⟨#[]⟩ : ByteArray),.int .i64 0,.string (⟨#[]⟩ : ByteArray)]) (t:=32) ?_; intro gb430 hg w7 hbox hb; have BK430 := Aside0.mk (hbox); have GW430 := Aside0.mk ((gw hg : w.heap.size ≤ gb430)); have GE430 := GW430; replace HB := bsA hb; have NB427_430 := Aside0.mk ((nl hg BK427.out)); have NB430_427 := Aside0.mk ((ng hg BK427.out)); replace BK427 := bbA BK427 hb; clear hb hbox hg; have hnb8 := NB430_427.out; have hnc8 := NB427_430.out; obtain ⟨hcz9_0,hcz9_1,hcz9_2⟩ := cl3 BK430.out; obtain ⟨hfz9_0,hfz9_1,hfz9_2⟩ := fz3 BK430.out))
     (try simp only [Act.put,setIfInBounds_toArray,set_cons_zero,set_cons_succ])
     go_cut [52] (fun v52 wc => ∃ (kq : Nat) (x52_4 : Bool),v52 = .bool x52_4 ∧ Aside0 (spec_StoreOK.j1 kq x3_1 x52_4 l0_0 a0_1 ((rd_T32 l0_0 x3_1).f0) ((rd_T32 l0_0 x3_1).f1) ((rd_T32 l0_0 x3_1).f2) = some r) ∧ Aside0 (kq ≤ k1) ∧ Aside0 (wc.heap[gb427]? = some (.cells #[(.slice (some ad429) l0_0.length c0_0),.int .i64 a0_1] 25 (0,0))) ∧ Aside0 (wc.heap[gb430]? = some (.cells #[.string ((rd_T32 l0_0 x3_1).f0),.int .i64 ((rd_T32 l0_0 x3_1).f1),.string ((rd_T32 l0_0 x3_1).f2)] 32 (0,0))) ∧ Aside0 (Below w.heap.size w wc))
     case first =>
      have H := HC5.out
      clear HC5
      replace H := Option.bind_eq_some_iff.mp H
      obtain ⟨t431,A100,H⟩ := H
      try dsimp only at H
      have A10 := Aside0.mk A100
      clear A100
      by_cases c11 : t431 = true
      ·subst c11
       rw [if_pos rfl] at H
       replace H := Option.bind_eq_some_iff.mp H
       obtain ⟨t432,A120,H⟩ := H
       try dsimp only at H
       have A12 := Aside0.mk A120
       clear A120
       by_cases c13 : t432 = true
       ·subst c13
        rw [if_pos rfl] at H
        by_cases c14 : (((rd_T32 l0_0 x3_1).f2).size : Int) > 600
        ·rw [if_pos c14] at H
         have c14b0 : decide (600 < (((rd_T32 l0_0 x3_1).f2).size : Int)) = true := decide_eq_true c14
         have c14b1 : decide (600 < ((rd_T32 l0_0 x3_1).f2).size) = true := decide_eq_true (by omega)
         clear c14
         (first | rw [c14b0] | (simp only [i64_w,i32_w]; rw [c14b0]) | skip)
         have H' := Aside0.mk H
         clear H
         try go_wp2
         have n0_ : Aside0 ((((w7.setCell ⟨gb430,0,none⟩ (.string ((rd_T32 l0_0 x3_1).f0))).setCell ⟨gb430,1,none⟩ (.int .i64 ((rd_T32 l0_0 x3_1).f1))).setCell ⟨gb430,2,none⟩ (.string ((rd_T32 l0_0 x3_1).f2))).heap[gb427]? = some (.cells #[.slice (some ad429) l0_0.length c0_0,.int .i64 a0_1] 25 (0,0))) := ⟨kF BK427.out⟩
         have n1_ : Aside0 ((((w7.setCell ⟨gb430,0,none⟩ (.string ((rd_T32 l0_0 x3_1).f0))).setCell ⟨gb430,1,none⟩ (.int .i64 ((rd_T32 l0_0 x3_1).f1))).setCell ⟨gb430,2,none⟩ (.string ((rd_T32 l0_0 x3_1).f2))).heap[gb430]? = some (.cells #[.string ((rd_T32 l0_0 x3_1).f0),.int .i64 ((rd_T32 l0_0 x3_1).f1),.string ((rd_T32 l0_0 x3_1).f2)] 32 (0,0))) := ⟨by (with_reducible repeat (first | refine blk_drewN ?_ _ | refine blk_drew ?_ | refine blk_alloc ?_ _)); refine blk_put (cs := #[.string ((rd_T32 l0_0 x3_1).f0),.int .i64 ((rd_T32 l0_0 x3_1).f1),.string (⟨#[]⟩ : ByteArray)]) ?_ 2 _ rfl; (with_reducible repeat (first | refine blk_drewN ?_ _ | refine blk_drew ?_ | refine blk_alloc ?_ _)); refine blk_put (cs := #[.string ((rd_T32 l0_0 x3_1).f0),.int .i64 0,.string (⟨#[]⟩ : ByteArray)]) ?_ 1 _ rfl; (with_reducible repeat (first | refine blk_drewN ?_ _ | refine blk_drew ?_ | refine blk_alloc ?_ _)); refine blk_put (cs := #[.string (⟨#[]⟩ : ByteArray),.int .i64 0,.string (⟨#[]⟩ : ByteArray)]) ?_ 0 _ rfl; (with_reducible repeat (first | refine blk_drewN ?_ _ | refine blk_drew ?_ | refine blk_alloc ?_ _)); exact BK430.out⟩
         have n2_ : Aside0 (Below w.heap.size w (((w7.setCell ⟨gb430,0,none⟩ (.string ((rd_T32 l0_0 x3_1).f0))).setCell ⟨gb430,1,none⟩ (.int .i64 ((rd_T32 l0_0 x3_1).f1))).setCell ⟨gb430,2,none⟩ (.string ((rd_T32 l0_0 x3_1).f2)))) := ⟨bA⟩
         (try clear BK427)
         (try clear BK430)
         (try clear HB)
         generalize (((w7.setCell ⟨gb430,0,none⟩ (.string ((rd_T32 l0_0 x3_1).f0))).setCell ⟨gb430,1,none⟩ (.int .i64 ((rd_T32 l0_0 x3_1).f1))).setCell ⟨gb430,2,none⟩ (.string ((rd_T32 l0_0 x3_1).f2))) = w15 at n0_ n1_ n2_ ⊢
         have BK427 := n0_
         have BK430 := n1_
         have HB := n2_
         clear n0_ n1_ n2_
         replace BK427 := Aside0.mk (blk_drew BK427.out)
         replace BK430 := Aside0.mk (blk_drew BK430.out)
         replace HB := Aside0.mk (below_drew1 HB.out)
         refine start_ (n:=35) (S:=fun w' => w'.cell? ⟨gb430,0,none⟩ = some (.string ((rd_T32 l0_0 x3_1).f0)) ∧ w'.cell? ⟨gb430,1,none⟩ = some (.int .i64 ((rd_T32 l0_0 x3_1).f1)) ∧ w'.cell? ⟨gb430,2,none⟩ = some (.string ((rd_T32 l0_0 x3_1).f2)) ∧ w'.cell? ⟨gb427,0,none⟩ = some (.slice (some ad429) l0_0.length c0_0) ∧ w'.cell? ⟨gb427,1,none⟩ = some (.int .i64 a0_1)) (ds := []) (bm 35 0) (by kernel_rfl) rfl rfl ⟨bl BK430 0,bl BK430 1,bl BK430 2,bl BK427 0,bl BK427 1⟩ (fun hHeld => ?_); refine with_tabW spec_StoreOK.tab5 spec_StoreOK.bits5 (fun HT_ HW_ => ?_)
         generalize w15.drew = w16 at BK427 BK430 HB hHeld ⊢
         refine pV_ 0 18 (bm 35 1) HT_.out ?_
         refine tk 1 19 (bm 35 3) HT_.out HW_.out hHeld ?_
         refine one_ (i:=2) (N:=some 20) (bm 35 7) rfl rfl (one_of HT_.out (by kernel_rfl)) (by decide) (fun K hK => ?_)
         refine goes_ Try.func56 (by kernel_rfl) rfl #[.string ((rd_T32 l0_0 x3_1).f0)] (by rfl) rfl rfl mA ?_
         with_reducible refine (spec_KeyOK.calls k1 ((rd_T32 l0_0 x3_1).f0) true _ A10.out).mono ?_
         rintro e w' ⟨rfl,⟨nd,rfl⟩⟩
         refine ⟨_,rfl,?_⟩
         refine hK.out _ _ ⟨bl BK430 0,bl BK430 1,bl BK430 2,bl BK427 0,bl BK427 1⟩ (fun hHeld => ?_)
         clear hK K
         refine nw 20 ?_
         refine pV_ 3 21 (bm 35 15) HT_.out ?_
         refine pV_ 4 22 (bm 35 31) HT_.out ?_
         refine pV_ 5 23 (bm 35 63) HT_.out ?_
         refine pV_ 7 25 (bm 35 191) HT_.out ?_
         refine tk 6 24 (bm 35 255) HT_.out HW_.out hHeld ?_
         refine tk 8 26 (bm 35 511) HT_.out HW_.out hHeld ?_
         refine pV_ 9 27 (bm 35 1023) HT_.out ?_
         refine one_ (i:=10) (N:=some 28) (bm 35 2047) rfl rfl (one_of HT_.out (by kernel_rfl)) (by decide) (fun K hK => ?_)
         refine goes_ Try.func31 (by kernel_rfl) rfl #[.int .i64 ((rd_T32 l0_0 x3_1).f1),.int .i64 1,.int .i64 (wrap64 (a0_1 - 1))] (by rfl) rfl rfl mA ?_
         with_reducible refine (spec_l01In.calls ((rd_T32 l0_0 x3_1).f1) 1 (wrap64 (a0_1 - 1)) true _ A12.out).mono ?_
         rintro e w' ⟨rfl,⟨nd,rfl⟩⟩
         refine ⟨_,rfl,?_⟩
         refine hK.out _ _ ⟨bl BK430 0,bl BK430 1,bl BK430 2,bl BK427 0,bl BK427 1⟩ (fun hHeld => ?_)
         clear hK K
         refine nw 28 ?_
         refine pV_ 11 29 (bm 35 4095) HT_.out ?_
         refine pV_ 12 30 (bm 35 8191) HT_.out ?_
         refine pV_ 13 31 (bm 35 16383) HT_.out ?_
         refine pV_ 14 32 (bm 35 32767) HT_.out ?_
         refine tk 15 33 (bm 35 65535) HT_.out HW_.out hHeld ?_
         refine pV_ 16 34 (bm 35 131071) HT_.out ?_
         refine pV_ 17 35 (bm 35 262143) HT_.out ?_
         refine pV_ 18 36 (bm 35 524287) HT_.out ?_
         refine pV_ 19 37 (bm 35 1048575) HT_.out ?_
         refine pU_ 20 38 (bm 35 2097151) HT_.out ?_
         refine pU_ 21 39 (bm 35 4194303) HT_.out ?_
         refine pU_ 22 40 (bm 35 8388607) HT_.out ?_
         refine pU_ 23 41 (bm 35 16777215) HT_.out ?_
         refine pU_ 24 42 (bm 35 33554431) HT_.out ?_
         refine pU_ 25 43 (bm 35 67108863) HT_.out ?_
         refine pU_ 26 44 (bm 35 134217727) HT_.out ?_
         refine pU_ 27 45 (bm 35 268435455) HT_.out ?_
         refine pU_ 28 46 (bm 35 536870911) HT_.out ?_
         refine pU_ 29 47 (bm 35 1073741823) HT_.out ?_
         refine pU_ 30 48 (bm 35 2147483647) HT_.out ?_
         refine pU_ 31 49 (bm 35 4294967295) HT_.out ?_
         refine pU_ 32 50 (bm 35 8589934591) HT_.out ?_
         refine pU_ 33 51 (bm 35 17179869183) HT_.out ?_
         refine pV_ 34 52 (bm 35 34359738367) HT_.out ?_
         refine done_ (done_of HT_.out (by kernel_rfl)) ?_
         try go_wp2
         go_meet
         case rel => exact ⟨_,(true),(by first | rfl | (simp; done) | (simp [*]; done)),H',⟨by have := HK1.out; first | omega | exact Nat.le_refl _⟩,⟨kA BK427.out⟩,⟨kA BK430.out⟩,⟨bA⟩⟩
        ·rw [if_neg c14] at H
         have c14b0 : decide (600 < (((rd_T32 l0_0 x3_1).f2).size : Int)) = false := decide_eq_false c14
         have c14b1 : decide (600 < ((rd_T32 l0_0 x3_1).f2).size) = false := decide_eq_false (by omega)
         clear c14
         (first | rw [c14b0] | (simp only [i64_w,i32_w]; rw [c14b0]) | skip)
         by_cases c17 : x3_1 > 0
         ·rw [if_pos c17] at H
          have c17b0 : decide (0 < x3_1) = true := decide_eq_true c17
          clear c17
          obtain ⟨ji18,hji18⟩ : ∃ j_ : Int,(wrap64 (x3_1 - 1)) = j_ := ⟨_,rfl⟩
          replace H : (if 0 ≤ (ji18) then (if (ji18) < (l0_0.length : Int) then (spec_StoreOK.j1 k1 x3_1 (!(Op.bytesLess (((rd_T32 l0_0 (ji18)).f0).toList) (((rd_T32 l0_0 x3_1).f0).toList))) l0_0 a0_1 ((rd_T32 l0_0 x3_1).f0) ((rd_T32 l0_0 x3_1).f1) ((rd_T32 l0_0 x3_1).f2)) else (none)) else (none)) = some r := by first | (rw [hji18] at H; exact H) | (simp only [hji18] at H ⊢; exact H)
          (try rw [hji18] at A10)
          (try rw [hji18] at A12)
          have hji18w : (IntKind.i64.wrap (x3_1 - 1)) = ji18 := (i64_w _).trans hji18
          by_cases c19 : 0 ≤ (ji18)
          ·rw [if_pos c19] at H
           have c19b0 : decide (0 ≤ (ji18)) = true := decide_eq_true c19
           clear c19
           by_cases c20 : (ji18) < (l0_0.length : Int)
           ·rw [if_pos c20] at H
            have c20b0 : decide ((ji18) < (l0_0.length : Int)) = true := decide_eq_true c20
            clear c20
            have H' := Aside0.mk H
            clear H
            try go_wp2
            have n0_ : Aside0 ((((w7.setCell ⟨gb430,0,none⟩ (.string ((rd_T32 l0_0 x3_1).f0))).setCell ⟨gb430,1,none⟩ (.int .i64 ((rd_T32 l0_0 x3_1).f1))).setCell ⟨gb430,2,none⟩ (.string ((rd_T32 l0_0 x3_1).f2))).heap[gb427]? = some (.cells #[.slice (some ad429) l0_0.length c0_0,.int .i64 a0_1] 25 (0,0))) := ⟨kF BK427.out⟩
            have n1_ : Aside0 ((((w7.setCell ⟨gb430,0,none⟩ (.string ((rd_T32 l0_0 x3_1).f0))).setCell ⟨gb430,1,none⟩ (.int .i64 ((rd_T32 l0_0 x3_1).f1))).setCell ⟨gb430,2,none⟩ (.string ((rd_T32 l0_0 x3_1).f2))).heap[gb430]? = some (.cells #[.string ((rd_T32 l0_0 x3_1).f0),.int .i64 ((rd_T32 l0_0 x3_1).f1),.string ((rd_T32 l0_0 x3_1).f2)] 32 (0,0))) := ⟨by (with_reducible repeat (first | refine blk_drewN ?_ _ | refine blk_drew ?_ | refine blk_alloc ?_ _)); refine blk_put (cs := #[.string ((rd_T32 l0_0 x3_1).f0),.int .i64 ((rd_T32 l0_0 x3_1).f1),.string (⟨#[]⟩ : ByteArray)]) ?_ 2 _ rfl; (with_reducible repeat (first | refine blk_drewN ?_ _ | refine blk_drew ?_ | refine blk_alloc ?_ _)); refine blk_put (cs := #[.string ((rd_T32 l0_0 x3_1).f0),.int .i64 0,.string (⟨#[]⟩ : ByteArray)]) ?_ 1 _ rfl; (with_reducible repeat (first | refine blk_drewN ?_ _ | refine blk_drew ?_ | refine blk_alloc ?_ _)); refine blk_put (cs := #[.string (⟨#[]⟩ : ByteArray),.int .i64 0,.string (⟨#[]⟩ : ByteArray)]) ?_ 0 _ rfl; (with_reducible repeat (first | refine blk_drewN ?_ _ | refine blk_drew ?_ | refine blk_alloc ?_ _)); exact BK430.out⟩
            have n2_ : Aside0 (Below w.heap.size w (((w7.setCell ⟨gb430,0,none⟩ (.string ((rd_T32 l0_0 x3_1).f0))).setCell ⟨gb430,1,none⟩ (.int .i64 ((rd_T32 l0_0 x3_1).f1))).setCell ⟨gb430,2,none⟩ (.string ((rd_T32 l0_0 x3_1).f2)))) := ⟨bA⟩
            (try clear BK427)
            (try clear BK430)
            (try clear HB)
            generalize (((w7.setCell ⟨gb430,0,none⟩ (.string ((rd_T32 l0_0 x3_1).f0))).setCell ⟨gb430,1,none⟩ (.int .i64 ((rd_T32 l0_0 x3_1).f1))).setCell ⟨gb430,2,none⟩ (.string ((rd_T32 l0_0 x3_1).f2))) = w21 at n0_ n1_ n2_ ⊢
            have BK427 := n0_
            have BK430 := n1_
            have HB := n2_
            clear n0_ n1_ n2_
            replace BK427 := Aside0.mk (blk_drew BK427.out)
            replace BK430 := Aside0.mk (blk_drew BK430.out)
            replace HB := Aside0.mk (below_drew1 HB.out)
            have p433 : 0 ≤ ((ji18) : Int) := od
            have q433 : (ji18) < (l0_0.length : Int) := od
            obtain ⟨ad433,e433,hx433_0,hx433_1,hx433_2⟩ := at_T32 HR0_0.out (ji18) p433 q433
            have hw433_2 := hx433_2
            have hw433_1 := hx433_1
            have hw433_0 := hx433_0
            obtain rfl : ad429 = ad433 := (by injection e433)
            replace hx433_0 := cb HB.out hx433_0
            replace hx433_1 := cb HB.out hx433_1
            replace hx433_2 := cb HB.out hx433_2
            replace p433 := eq_true p433
            replace q433 := eq_true q433
            refine start_ (n:=35) (S:=fun w' => w'.cell? ⟨gb430,0,none⟩ = some (.string ((rd_T32 l0_0 x3_1).f0)) ∧ w'.cell? ⟨gb430,1,none⟩ = some (.int .i64 ((rd_T32 l0_0 x3_1).f1)) ∧ w'.cell? ⟨gb430,2,none⟩ = some (.string ((rd_T32 l0_0 x3_1).f2)) ∧ w'.cell? ⟨gb427,0,none⟩ = some (.slice (some ad429) l0_0.length c0_0) ∧ w'.cell? ⟨gb427,1,none⟩ = some (.int .i64 a0_1) ∧ w'.cell? (ad429.add (((ji18)).toNat * 3)) = some (.string ((rd_T32 l0_0 (ji18)).f0)) ∧ w'.cell? ⟨(ad429.add (((ji18)).toNat * 3)).block,(ad429.add (((ji18)).toNat * 3)).off + 1,none⟩ = some (.int .i64 ((rd_T32 l0_0 (ji18)).f1)) ∧ w'.cell? ⟨(ad429.add (((ji18)).toNat * 3)).block,(ad429.add (((ji18)).toNat * 3)).off + 2,none⟩ = some (.string ((rd_T32 l0_0 (ji18)).f2))) (ds := []) (bm 35 0) (by kernel_rfl) rfl rfl ⟨bl BK430 0,bl BK430 1,bl BK430 2,bl BK427 0,bl BK427 1,(cb HB.out hw433_0),(cb HB.out hw433_1),(cb HB.out hw433_2)⟩ (fun hHeld => ?_); refine with_tabW spec_StoreOK.tab5 spec_StoreOK.bits5 (fun HT_ HW_ => ?_)
            generalize w21.drew = w22 at BK427 BK430 HB hx433_0 hx433_1 hx433_2 hHeld ⊢
            refine pV_ 0 18 (bm 35 1) HT_.out ?_
            refine tk 1 19 (bm 35 3) HT_.out HW_.out hHeld ?_
            refine one_ (i:=2) (N:=some 20) (bm 35 7) rfl rfl (one_of HT_.out (by kernel_rfl)) (by decide) (fun K hK => ?_)
            refine goes_ Try.func56 (by kernel_rfl) rfl #[.string ((rd_T32 l0_0 x3_1).f0)] (by rfl) rfl rfl mA ?_
            with_reducible refine (spec_KeyOK.calls k1 ((rd_T32 l0_0 x3_1).f0) true _ A10.out).mono ?_
            rintro e w' ⟨rfl,⟨nd,rfl⟩⟩
            refine ⟨_,rfl,?_⟩
            refine hK.out _ _ ⟨bl BK430 0,bl BK430 1,bl BK430 2,bl BK427 0,bl BK427 1,(cb HB.out hw433_0),(cb HB.out hw433_1),(cb HB.out hw433_2)⟩ (fun hHeld => ?_)
            clear hK K
            refine nw 20 ?_
            refine pV_ 3 21 (bm 35 15) HT_.out ?_
            refine pV_ 4 22 (bm 35 31) HT_.out ?_
            refine pV_ 5 23 (bm 35 63) HT_.out ?_
            refine pV_ 7 25 (bm 35 191) HT_.out ?_
            refine tk 6 24 (bm 35 255) HT_.out HW_.out hHeld ?_
            refine tk 8 26 (bm 35 511) HT_.out HW_.out hHeld ?_
            refine pV_ 9 27 (bm 35 1023) HT_.out ?_
            refine one_ (i:=10) (N:=some 28) (bm 35 2047) rfl rfl (one_of HT_.out (by kernel_rfl)) (by decide) (fun K hK => ?_)
            refine goes_ Try.func31 (by kernel_rfl) rfl #[.int .i64 ((rd_T32 l0_0 x3_1).f1),.int .i64 1,.int .i64 (wrap64 (a0_1 - 1))] (by rfl) rfl rfl mA ?_
            with_reducible refine (spec_l01In.calls ((rd_T32 l0_0 x3_1).f1) 1 (wrap64 (a0_1 - 1)) true _ A12.out).mono ?_
            rintro e w' ⟨rfl,⟨nd,rfl⟩⟩
            refine ⟨_,rfl,?_⟩
            refine hK.out _ _ ⟨bl BK430 0,bl BK430 1,bl BK430 2,bl BK427 0,bl BK427 1,(cb HB.out hw433_0),(cb HB.out hw433_1),(cb HB.out hw433_2)⟩ (fun hHeld => ?_)
            clear hK K
            refine nw 28 ?_
            refine pV_ 11 29 (bm 35 4095) HT_.out ?_
            refine pV_ 12 30 (bm 35 8191) HT_.out ?_
            refine pV_ 13 31 (bm 35 16383) HT_.out ?_
            refine pV_ 14 32 (bm 35 32767) HT_.out ?_
            refine tk 15 33 (bm 35 65535) HT_.out HW_.out hHeld ?_
            refine pV_ 16 34 (bm 35 131071) HT_.out ?_
            refine pV_ 17 35 (bm 35 262143) HT_.out ?_
            refine pV_ 18 36 (bm 35 524287) HT_.out ?_
            refine pV_ 19 37 (bm 35 1048575) HT_.out ?_
            refine pV_ 20 38 (bm 35 2097151) HT_.out ?_
            refine pV_ 21 39 (bm 35 4194303) HT_.out ?_
            refine pV_ 22 40 (bm 35 8388607) HT_.out ?_
            refine pV_ 23 41 (bm 35 16777215) HT_.out ?_
            refine pV_ 25 43 (bm 35 50331647) HT_.out ?_
            refine pV_ 26 44 (bm 35 117440511) HT_.out ?_
            refine pV_ 30 48 (bm 35 1191182335) HT_.out ?_
            refine tk 24 42 (bm 35 1207959551) HT_.out HW_.out hHeld ?_
            refine pV_ 27 45 (bm 35 1342177279) HT_.out ?_
            refine pV_ 28 46 (bm 35 1610612735) HT_.out ?_
            refine tk 29 47 (bm 35 2147483647) HT_.out HW_.out hHeld ?_
            refine tk 31 49 (bm 35 4294967295) HT_.out HW_.out hHeld ?_
            refine pV_ 32 50 (bm 35 8589934591) HT_.out ?_
            refine pV_ 33 51 (bm 35 17179869183) HT_.out ?_
            refine pV_ 34 52 (bm 35 34359738367) HT_.out ?_
            refine done_ (done_of HT_.out (by kernel_rfl)) ?_
            try go_wp2
            go_meet
            case rel => exact ⟨_,(!(Op.bytesLess (((rd_T32 l0_0 (ji18)).f0).toList) (((rd_T32 l0_0 x3_1).f0).toList))),(by first | rfl | (simp; done) | (simp only [← hji18] <;> (first | rfl | simp)) | (simp [*]; done)),H',⟨by have := HK1.out; first | omega | exact Nat.le_refl _⟩,⟨kA BK427.out⟩,⟨kA BK430.out⟩,⟨bA⟩⟩
           ·rw [if_neg c20] at H
            exact absurd H (by simp)
          ·rw [if_neg c19] at H
           exact absurd H (by simp)
         ·rw [if_neg c17] at H
          have c17b0 : decide (0 < x3_1) = false := decide_eq_false c17
          clear c17
          have H' := Aside0.mk H
          clear H
          try go_wp2
          have n0_ : Aside0 ((((w7.setCell ⟨gb430,0,none⟩ (.string ((rd_T32 l0_0 x3_1).f0))).setCell ⟨gb430,1,none⟩ (.int .i64 ((rd_T32 l0_0 x3_1).f1))).setCell ⟨gb430,2,none⟩ (.string ((rd_T32 l0_0 x3_1).f2))).heap[gb427]? = some (.cells #[.slice (some ad429) l0_0.length c0_0,.int .i64 a0_1] 25 (0,0))) := ⟨kF BK427.out⟩
          have n1_ : Aside0 ((((w7.setCell ⟨gb430,0,none⟩ (.string ((rd_T32 l0_0 x3_1).f0))).setCell ⟨gb430,1,none⟩ (.int .i64 ((rd_T32 l0_0 x3_1).f1))).setCell ⟨gb430,2,none⟩ (.string ((rd_T32 l0_0 x3_1).f2))).heap[gb430]? = some (.cells #[.string ((rd_T32 l0_0 x3_1).f0),.int .i64 ((rd_T32 l0_0 x3_1).f1),.string ((rd_T32 l0_0 x3_1).f2)] 32 (0,0))) := ⟨by (with_reducible repeat (first | refine blk_drewN ?_ _ | refine blk_drew ?_ | refine blk_alloc ?_ _)); refine blk_put (cs := #[.string ((rd_T32 l0_0 x3_1).f0),.int .i64 ((rd_T32 l0_0 x3_1).f1),.string (⟨#[]⟩ : ByteArray)]) ?_ 2 _ rfl; (with_reducible repeat (first | refine blk_drewN ?_ _ | refine blk_drew ?_ | refine blk_alloc ?_ _)); refine blk_put (cs := #[.string ((rd_T32 l0_0 x3_1).f0),.int .i64 0,.string (⟨#[]⟩ : ByteArray)]) ?_ 1 _ rfl; (with_reducible repeat (first | refine blk_drewN ?_ _ | refine blk_drew ?_ | refine blk_alloc ?_ _)); refine blk_put (cs := #[.string (⟨#[]⟩ : ByteArray),.int .i64 0,.string (⟨#[]⟩ : ByteArray)]) ?_ 0 _ rfl; (with_reducible repeat (first | refine blk_drewN ?_ _ | refine blk_drew ?_ | refine blk_alloc ?_ _)); exact BK430.out⟩
          have n2_ : Aside0 (Below w.heap.size w (((w7.setCell ⟨gb430,0,none⟩ (.string ((rd_T32 l0_0 x3_1).f0))).setCell ⟨gb430,1,none⟩ (.int .i64 ((rd_T32 l0_0 x3_1).f1))).setCell ⟨gb430,2,none⟩ (.string ((rd_T32 l0_0 x3_1).f2)))) := ⟨bA⟩
          (try clear BK427)
          (try clear BK430)
          (try clear HB)
          generalize (((w7.setCell ⟨gb430,0,none⟩ (.string ((rd_T32 l0_0 x3_1).f0))).setCell ⟨gb430,1,none⟩ (.int .i64 ((rd_T32 l0_0 x3_1).f1))).setCell ⟨gb430,2,none⟩ (.string ((rd_T32 l0_0 x3_1).f2))) = w23 at n0_ n1_ n2_ ⊢
          have BK427 := n0_
          have BK430 := n1_
          have HB := n2_
          clear n0_ n1_ n2_
          replace BK427 := Aside0.mk (blk_drew BK427.out)
          replace BK430 := Aside0.mk (blk_drew BK430.out)
          replace HB := Aside0.mk (below_drew1 HB.out)
          refine start_ (n:=35) (S:=fun w' => w'.cell? ⟨gb430,0,none⟩ = some (.string ((rd_T32 l0_0 x3_1).f0)) ∧ w'.cell? ⟨gb430,1,none⟩ = some (.int .i64 ((rd_T32 l0_0 x3_1).f1)) ∧ w'.cell? ⟨gb430,2,none⟩ = some (.string ((rd_T32 l0_0 x3_1).f2)) ∧ w'.cell? ⟨gb427,0,none⟩ = some (.slice (some ad429) l0_0.length c0_0) ∧ w'.cell? ⟨gb427,1,none⟩ = some (.int .i64 a0_1)) (ds := []) (bm 35 0) (by kernel_rfl) rfl rfl ⟨bl BK430 0,bl BK430 1,bl BK430 2,bl BK427 0,bl BK427 1⟩ (fun hHeld => ?_); refine with_tabW spec_StoreOK.tab5 spec_StoreOK.bits5 (fun HT_ HW_ => ?_)
          generalize w23.drew = w24 at BK427 BK430 HB hHeld ⊢
          refine pV_ 0 18 (bm 35 1) HT_.out ?_
          refine tk 1 19 (bm 35 3) HT_.out HW_.out hHeld ?_
          refine one_ (i:=2) (N:=some 20) (bm 35 7) rfl rfl (one_of HT_.out (by kernel_rfl)) (by decide) (fun K hK => ?_)
          refine goes_ Try.func56 (by kernel_rfl) rfl #[.string ((rd_T32 l0_0 x3_1).f0)] (by rfl) rfl rfl mA ?_
          with_reducible refine (spec_KeyOK.calls k1 ((rd_T32 l0_0 x3_1).f0) true _ A10.out).mono ?_
          rintro e w' ⟨rfl,⟨nd,rfl⟩⟩
          refine ⟨_,rfl,?_⟩
          refine hK.out _ _ ⟨bl BK430 0,bl BK430 1,bl BK430 2,bl BK427 0,bl BK427 1⟩ (fun hHeld => ?_)
          clear hK K
          refine nw 20 ?_
          refine pV_ 3 21 (bm 35 15) HT_.out ?_
          refine pV_ 4 22 (bm 35 31) HT_.out ?_
          refine pV_ 5 23 (bm 35 63) HT_.out ?_
          refine pV_ 7 25 (bm 35 191) HT_.out ?_
          refine tk 6 24 (bm 35 255) HT_.out HW_.out hHeld ?_
          refine tk 8 26 (bm 35 511) HT_.out HW_.out hHeld ?_
          refine pV_ 9 27 (bm 35 1023) HT_.out ?_
          refine one_ (i:=10) (N:=some 28) (bm 35 2047) rfl rfl (one_of HT_.out (by kernel_rfl)) (by decide) (fun K hK => ?_)
          refine goes_ Try.func31 (by kernel_rfl) rfl #[.int .i64 ((rd_T32 l0_0 x3_1).f1),.int .i64 1,.int .i64 (wrap64 (a0_1 - 1))] (by rfl) rfl rfl mA ?_
          with_reducible refine (spec_l01In.calls ((rd_T32 l0_0 x3_1).f1) 1 (wrap64 (a0_1 - 1)) true _ A12.out).mono ?_
          rintro e w' ⟨rfl,⟨nd,rfl⟩⟩
          refine ⟨_,rfl,?_⟩
          refine hK.out _ _ ⟨bl BK430 0,bl BK430 1,bl BK430 2,bl BK427 0,bl BK427 1⟩ (fun hHeld => ?_)
          clear hK K
          refine nw 28 ?_
          refine pV_ 11 29 (bm 35 4095) HT_.out ?_
          refine pV_ 12 30 (bm 35 8191) HT_.out ?_
          refine pV_ 13 31 (bm 35 16383) HT_.out ?_
          refine pV_ 14 32 (bm 35 32767) HT_.out ?_
          refine tk 15 33 (bm 35 65535) HT_.out HW_.out hHeld ?_
          refine pV_ 16 34 (bm 35 131071) HT_.out ?_
          refine pV_ 17 35 (bm 35 262143) HT_.out ?_
          refine pV_ 18 36 (bm 35 524287) HT_.out ?_
          refine pV_ 19 37 (bm 35 1048575) HT_.out ?_
          refine pV_ 20 38 (bm 35 2097151) HT_.out ?_
          refine pV_ 21 39 (bm 35 4194303) HT_.out ?_
          refine pV_ 22 40 (bm 35 8388607) HT_.out ?_
          refine pU_ 23 41 (bm 35 16777215) HT_.out ?_
          refine pU_ 24 42 (bm 35 33554431) HT_.out ?_
          refine pU_ 25 43 (bm 35 67108863) HT_.out ?_
          refine pU_ 26 44 (bm 35 134217727) HT_.out ?_
          refine pU_ 27 45 (bm 35 268435455) HT_.out ?_
          refine pU_ 28 46 (bm 35 536870911) HT_.out ?_
          refine pU_ 29 47 (bm 35 1073741823) HT_.out ?_
          refine pU_ 30 48 (bm 35 2147483647) HT_.out ?_
          refine pU_ 31 49 (bm 35 4294967295) HT_.out ?_
          refine pU_ 32 50 (bm 35 8589934591) HT_.out ?_
          refine pV_ 33 51 (bm 35 17179869183) HT_.out ?_
          refine pV_ 34 52 (bm 35 34359738367) HT_.out ?_
          refine done_ (done_of HT_.out (by kernel_rfl)) ?_
          try go_wp2
          go_meet
          case rel => exact ⟨_,(false),(by first | rfl | (simp; done) | (simp [*]; done)),H',⟨by have := HK1.out; first | omega | exact Nat.le_refl _⟩,⟨kA BK427.out⟩,⟨kA BK430.out⟩,⟨bA⟩⟩
       ·replace c13 := Bool.eq_false_iff.mpr c13
        subst c13
        rw [if_neg (show ¬ (false = true) by decide)] at H
        have H' := Aside0.mk H
        clear H
        try go_wp2
        have n0_ : Aside0 ((((w7.setCell ⟨gb430,0,none⟩ (.string ((rd_T32 l0_0 x3_1).f0))).setCell ⟨gb430,1,none⟩ (.int .i64 ((rd_T32 l0_0 x3_1).f1))).setCell ⟨gb430,2,none⟩ (.string ((rd_T32 l0_0 x3_1).f2))).heap[gb427]? = some (.cells #[.slice (some ad429) l0_0.length c0_0,.int .i64 a0_1] 25 (0,0))) := ⟨kF BK427.out⟩
        have n1_ : Aside0 ((((w7.setCell ⟨gb430,0,none⟩ (.string ((rd_T32 l0_0 x3_1).f0))).setCell ⟨gb430,1,none⟩ (.int .i64 ((rd_T32 l0_0 x3_1).f1))).setCell ⟨gb430,2,none⟩ (.string ((rd_T32 l0_0 x3_1).f2))).heap[gb430]? = some (.cells #[.string ((rd_T32 l0_0 x3_1).f0),.int .i64 ((rd_T32 l0_0 x3_1).f1),.string ((rd_T32 l0_0 x3_1).f2)] 32 (0,0))) := ⟨by (with_reducible repeat (first | refine blk_drewN ?_ _ | refine blk_drew ?_ | refine blk_alloc ?_ _)); refine blk_put (cs := #[.string ((rd_T32 l0_0 x3_1).f0),.int .i64 ((rd_T32 l0_0 x3_1).f1),.string (⟨#[]⟩ : ByteArray)]) ?_ 2 _ rfl; (with_reducible repeat (first | refine blk_drewN ?_ _ | refine blk_drew ?_ | refine blk_alloc ?_ _)); refine blk_put (cs := #[.string ((rd_T32 l0_0 x3_1).f0),.int .i64 0,.string (⟨#[]⟩ : ByteArray)]) ?_ 1 _ rfl; (with_reducible repeat (first | refine blk_drewN ?_ _ | refine blk_drew ?_ | refine blk_alloc ?_ _)); refine blk_put (cs := #[.string (⟨#[]⟩ : ByteArray),.int .i64 0,.string (⟨#[]⟩ : ByteArray)]) ?_ 0 _ rfl; (with_reducible repeat (first | refine blk_drewN ?_ _ | refine blk_drew ?_ | refine blk_alloc ?_ _)); exact BK430.out⟩
        have n2_ : Aside0 (Below w.heap.size w (((w7.setCell ⟨gb430,0,none⟩ (.string ((rd_T32 l0_0 x3_1).f0))).setCell ⟨gb430,1,none⟩ (.int .i64 ((rd_T32 l0_0 x3_1).f1))).setCell ⟨gb430,2,none⟩ (.string ((rd_T32 l0_0 x3_1).f2)))) := ⟨bA⟩
        (try clear BK427)
        (try clear BK430)
        (try clear HB)
        generalize (((w7.setCell ⟨gb430,0,none⟩ (.string ((rd_T32 l0_0 x3_1).f0))).setCell ⟨gb430,1,none⟩ (.int .i64 ((rd_T32 l0_0 x3_1).f1))).setCell ⟨gb430,2,none⟩ (.string ((rd_T32 l0_0 x3_1).f2))) = w25 at n0_ n1_ n2_ ⊢
        have BK427 := n0_
        have BK430 := n1_
        have HB := n2_
        clear n0_ n1_ n2_
        replace BK427 := Aside0.mk (blk_drew BK427.out)
        replace BK430 := Aside0.mk (blk_drew BK430.out)
        replace HB := Aside0.mk (below_drew1 HB.out)
        refine start_ (n:=35) (S:=fun w' => w'.cell? ⟨gb430,0,none⟩ = some (.string ((rd_T32 l0_0 x3_1).f0)) ∧ w'.cell? ⟨gb430,1,none⟩ = some (.int .i64 ((rd_T32 l0_0 x3_1).f1)) ∧ w'.cell? ⟨gb430,2,none⟩ = some (.string ((rd_T32 l0_0 x3_1).f2)) ∧ w'.cell? ⟨gb427,0,none⟩ = some (.slice (some ad429) l0_0.length c0_0) ∧ w'.cell? ⟨gb427,1,none⟩ = some (.int .i64 a0_1)) (ds := []) (bm 35 0) (by kernel_rfl) rfl rfl ⟨bl BK430 0,bl BK430 1,bl BK430 2,bl BK427 0,bl BK427 1⟩ (fun hHeld => ?_); refine with_tabW spec_StoreOK.tab5 spec_StoreOK.bits5 (fun HT_ HW_ => ?_)
        generalize w25.drew = w26 at BK427 BK430 HB hHeld ⊢
        refine pV_ 0 18 (bm 35 1) HT_.out ?_
        refine tk 1 19 (bm 35 3) HT_.out HW_.out hHeld ?_
        refine one_ (i:=2) (N:=some 20) (bm 35 7) rfl rfl (one_of HT_.out (by kernel_rfl)) (by decide) (fun K hK => ?_)
        refine goes_ Try.func56 (by kernel_rfl) rfl #[.string ((rd_T32 l0_0 x3_1).f0)] (by rfl) rfl rfl mA ?_
        with_reducible refine (spec_KeyOK.calls k1 ((rd_T32 l0_0 x3_1).f0) true _ A10.out).mono ?_
        rintro e w' ⟨rfl,⟨nd,rfl⟩⟩
        refine ⟨_,rfl,?_⟩
        refine hK.out _ _ ⟨bl BK430 0,bl BK430 1,bl BK430 2,bl BK427 0,bl BK427 1⟩ (fun hHeld => ?_)
        clear hK K
        refine nw 20 ?_
        refine pV_ 3 21 (bm 35 15) HT_.out ?_
        refine pV_ 4 22 (bm 35 31) HT_.out ?_
        refine pV_ 5 23 (bm 35 63) HT_.out ?_
        refine pV_ 7 25 (bm 35 191) HT_.out ?_
        refine tk 6 24 (bm 35 255) HT_.out HW_.out hHeld ?_
        refine tk 8 26 (bm 35 511) HT_.out HW_.out hHeld ?_
        refine pV_ 9 27 (bm 35 1023) HT_.out ?_
        refine one_ (i:=10) (N:=some 28) (bm 35 2047) rfl rfl (one_of HT_.out (by kernel_rfl)) (by decide) (fun K hK => ?_)
        refine goes_ Try.func31 (by kernel_rfl) rfl #[.int .i64 ((rd_T32 l0_0 x3_1).f1),.int .i64 1,.int .i64 (wrap64 (a0_1 - 1))] (by rfl) rfl rfl mA ?_
        with_reducible refine (spec_l01In.calls ((rd_T32 l0_0 x3_1).f1) 1 (wrap64 (a0_1 - 1)) false _ A12.out).mono ?_
        rintro e w' ⟨rfl,⟨nd,rfl⟩⟩
        refine ⟨_,rfl,?_⟩
        refine hK.out _ _ ⟨bl BK430 0,bl BK430 1,bl BK430 2,bl BK427 0,bl BK427 1⟩ (fun hHeld => ?_)
        clear hK K
        refine nw 28 ?_
        refine pV_ 11 29 (bm 35 4095) HT_.out ?_
        refine pV_ 12 30 (bm 35 8191) HT_.out ?_
        refine pV_ 13 31 (bm 35 16383) HT_.out ?_
        refine pU_ 14 32 (bm 35 32767) HT_.out ?_
        refine pU_ 15 33 (bm 35 65535) HT_.out ?_
        refine pU_ 16 34 (bm 35 131071) HT_.out ?_
        refine pU_ 17 35 (bm 35 262143) HT_.out ?_
        refine pV_ 18 36 (bm 35 524287) HT_.out ?_
        refine pV_ 19 37 (bm 35 1048575) HT_.out ?_
        refine pU_ 20 38 (bm 35 2097151) HT_.out ?_
        refine pU_ 21 39 (bm 35 4194303) HT_.out ?_
        refine pU_ 22 40 (bm 35 8388607) HT_.out ?_
        refine pU_ 23 41 (bm 35 16777215) HT_.out ?_
        refine pU_ 24 42 (bm 35 33554431) HT_.out ?_
        refine pU_ 25 43 (bm 35 67108863) HT_.out ?_
        refine pU_ 26 44 (bm 35 134217727) HT_.out ?_
        refine pU_ 27 45 (bm 35 268435455) HT_.out ?_
        refine pU_ 28 46 (bm 35 536870911) HT_.out ?_
        refine pU_ 29 47 (bm 35 1073741823) HT_.out ?_
        refine pU_ 30 48 (bm 35 2147483647) HT_.out ?_
        refine pU_ 31 49 (bm 35 4294967295) HT_.out ?_
        refine pU_ 32 50 (bm 35 8589934591) HT_.out ?_
        refine pU_ 33 51 (bm 35 17179869183) HT_.out ?_
        refine pV_ 34 52 (bm 35 34359738367) HT_.out ?_
        refine done_ (done_of HT_.out (by kernel_rfl)) ?_
        try go_wp2
        go_meet
        case rel => exact ⟨_,(true),(by first | rfl | (simp; done) | (simp [*]; done)),H',⟨by have := HK1.out; first | omega | exact Nat.le_refl _⟩,⟨kA BK427.out⟩,⟨kA BK430.out⟩,⟨bA⟩⟩
      ·replace c11 := Bool.eq_false_iff.mpr c11
       subst c11
       rw [if_neg (show ¬ (false = true) by decide)] at H
       have H' := Aside0.mk H
       clear H
       try go_wp2
       have n0_ : Aside0 ((((w7.setCell ⟨gb430,0,none⟩ (.string ((rd_T32 l0_0 x3_1).f0))).setCell ⟨gb430,1,none⟩ (.int .i64 ((rd_T32 l0_0 x3_1).f1))).setCell ⟨gb430,2,none⟩ (.string ((rd_T32 l0_0 x3_1).f2))).heap[gb427]? = some (.cells #[.slice (some ad429) l0_0.length c0_0,.int .i64 a0_1] 25 (0,0))) := ⟨kF BK427.out⟩
       have n1_ : Aside0 ((((w7.setCell ⟨gb430,0,none⟩ (.string ((rd_T32 l0_0 x3_1).f0))).setCell ⟨gb430,1,none⟩ (.int .i64 ((rd_T32 l0_0 x3_1).f1))).setCell ⟨gb430,2,none⟩ (.string ((rd_T32 l0_0 x3_1).f2))).heap[gb430]? = some (.cells #[.string ((rd_T32 l0_0 x3_1).f0),.int .i64 ((rd_T32 l0_0 x3_1).f1),.string ((rd_T32 l0_0 x3_1).f2)] 32 (0,0))) := ⟨by (with_reducible repeat (first | refine blk_drewN ?_ _ | refine blk_drew ?_ | refine blk_alloc ?_ _)); refine blk_put (cs := #[.string ((rd_T32 l0_0 x3_1).f0),.int .i64 ((rd_T32 l0_0 x3_1).f1),.string (⟨#[]⟩ : ByteArray)]) ?_ 2 _ rfl; (with_reducible repeat (first | refine blk_drewN ?_ _ | refine blk_drew ?_ | refine blk_alloc ?_ _)); refine blk_put (cs := #[.string ((rd_T32 l0_0 x3_1).f0),.int .i64 0,.string (⟨#[]⟩ : ByteArray)]) ?_ 1 _ rfl; (with_reducible repeat (first | refine blk_drewN ?_ _ | refine blk_drew ?_ | refine blk_alloc ?_ _)); refine blk_put (cs := #[.string (⟨#[]⟩ : ByteArray),.int .i64 0,.string (⟨#[]⟩ : ByteArray)]) ?_ 0 _ rfl; (with_reducible repeat (first | refine blk_drewN ?_ _ | refine blk_drew ?_ | refine blk_alloc ?_ _)); exact BK430.out⟩
       have n2_ : Aside0 (Below w.heap.size w (((w7.setCell ⟨gb430,0,none⟩ (.string ((rd_T32 l0_0 x3_1).f0))).setCell ⟨gb430,1,none⟩ (.int .i64 ((rd_T32 l0_0 x3_1).f1))).setCell ⟨gb430,2,none⟩ (.string ((rd_T32 l0_0 x3_1).f2)))) := ⟨bA⟩
       (try clear BK427)
       (try clear BK430)
       (try clear HB)
       generalize (((w7.setCell ⟨gb430,0,none⟩ (.string ((rd_T32 l0_0 x3_1).f0))).setCell ⟨gb430,1,none⟩ (.int .i64 ((rd_T32 l0_0 x3_1).f1))).setCell ⟨gb430,2,none⟩ (.string ((rd_T32 l0_0 x3_1).f2))) = w27 at n0_ n1_ n2_ ⊢
       have BK427 := n0_
       have BK430 := n1_
       have HB := n2_
       clear n0_ n1_ n2_
       replace BK427 := Aside0.mk (blk_drew BK427.out)
       replace BK430 := Aside0.mk (blk_drew BK430.out)
       replace HB := Aside0.mk (below_drew1 HB.out)
       refine start_ (n:=35) (S:=fun w' => w'.cell? ⟨gb430,0,none⟩ = some (.string ((rd_T32 l0_0 x3_1).f0)) ∧ w'.cell? ⟨gb430,1,none⟩ = some (.int .i64 ((rd_T32 l0_0 x3_1).f1)) ∧ w'.cell? ⟨gb430,2,none⟩ = some (.string ((rd_T32 l0_0 x3_1).f2))) (ds := []) (bm 35 0) (by kernel_rfl) rfl rfl ⟨bl BK430 0,bl BK430 1,bl BK430 2⟩ (fun hHeld => ?_); refine with_tabW spec_StoreOK.tab5 spec_StoreOK.bits5 (fun HT_ HW_ => ?_)
       generalize w27.drew = w28 at BK427 BK430 HB hHeld ⊢
       refine pV_ 0 18 (bm 35 1) HT_.out ?_
       refine tk 1 19 (bm 35 3) HT_.out HW_.out hHeld ?_
       refine one_ (i:=2) (N:=some 20) (bm 35 7) rfl rfl (one_of HT_.out (by kernel_rfl)) (by decide) (fun K hK => ?_)
       refine goes_ Try.func56 (by kernel_rfl) rfl #[.string ((rd_T32 l0_0 x3_1).f0)] (by rfl) rfl rfl mA ?_
       with_reducible refine (spec_KeyOK.calls k1 ((rd_T32 l0_0 x3_1).f0) false _ A10.out).mono ?_
       rintro e w' ⟨rfl,⟨nd,rfl⟩⟩
       refine ⟨_,rfl,?_⟩
       refine hK.out _ _ ⟨bl BK430 0,bl BK430 1,bl BK430 2⟩ (fun hHeld => ?_)
       clear hK K
       refine nw 20 ?_
       refine pV_ 3 21 (bm 35 15) HT_.out ?_
       refine pV_ 4 22 (bm 35 31) HT_.out ?_
       refine pU_ 5 23 (bm 35 63) HT_.out ?_
       refine pU_ 6 24 (bm 35 127) HT_.out ?_
       refine pU_ 7 25 (bm 35 255) HT_.out ?_
       refine pU_ 8 26 (bm 35 511) HT_.out ?_
       refine pU_ 9 27 (bm 35 1023) HT_.out ?_
       refine pU_ 10 28 (bm 35 2047) HT_.out ?_
       refine pU_ 11 29 (bm 35 4095) HT_.out ?_
       refine pV_ 12 30 (bm 35 8191) HT_.out ?_
       refine pV_ 13 31 (bm 35 16383) HT_.out ?_
       refine pU_ 14 32 (bm 35 32767) HT_.out ?_
       refine pU_ 15 33 (bm 35 65535) HT_.out ?_
       refine pU_ 16 34 (bm 35 131071) HT_.out ?_
       refine pU_ 17 35 (bm 35 262143) HT_.out ?_
       refine pV_ 18 36 (bm 35 524287) HT_.out ?_
       refine pV_ 19 37 (bm 35 1048575) HT_.out ?_
       refine pU_ 20 38 (bm 35 2097151) HT_.out ?_
       refine pU_ 21 39 (bm 35 4194303) HT_.out ?_
       refine pU_ 22 40 (bm 35 8388607) HT_.out ?_
       refine pU_ 23 41 (bm 35 16777215) HT_.out ?_
       refine pU_ 24 42 (bm 35 33554431) HT_.out ?_
       refine pU_ 25 43 (bm 35 67108863) HT_.out ?_
       refine pU_ 26 44 (bm 35 134217727) HT_.out ?_
       refine pU_ 27 45 (bm 35 268435455) HT_.out ?_
       refine pU_ 28 46 (bm 35 536870911) HT_.out ?_
       refine pU_ 29 47 (bm 35 1073741823) HT_.out ?_
       refine pU_ 30 48 (bm 35 2147483647) HT_.out ?_
       refine pU_ 31 49 (bm 35 4294967295) HT_.out ?_
       refine pU_ 32 50 (bm 35 8589934591) HT_.out ?_
       refine pU_ 33 51 (bm 35 17179869183) HT_.out ?_
       refine pV_ 34 52 (bm 35 34359738367) HT_.out ?_
       refine done_ (done_of HT_.out (by kernel_rfl)) ?_
       try go_wp2
       go_meet
       case rel => exact ⟨_,(true),(by first | rfl | (simp; done) | (simp [*]; done)),H',⟨by have := HK1.out; first | omega | exact Nat.le_refl _⟩,⟨kA BK427.out⟩,⟨kA BK430.out⟩,⟨bA⟩⟩
     case rest =>
      clear HC5
      try clear c1
      try clear p2
      try clear c3
      try clear c5
      try clear p6
      try clear c11
      try clear c13
      obtain ⟨kq,x52_4,rfl,HA,HJ4,BK427,BK430,HB⟩ := hcut
      cases kq with
      | zero => exact absurd HA.out (by simp [spec_StoreOK.j1])
      | succ kj4 =>
       have H := HA.out
       clear HA
       simp only [spec_StoreOK.j1] at H
       by_cases c29 : x52_4 = true
       ·subst c29
        rw [if_pos rfl] at H
        obtain rfl := Option.some.inj H
        go_wp2
        go_ret
        exact ⟨by first | rfl | (simp only [i64_w,i32_w] <;> rfl) | (simp [errW_none,errW_some] <;> rfl) | (simp [*,errW_none,errW_some] <;> rfl),bA⟩
       ·replace c29 := Bool.eq_false_iff.mpr c29
        subst c29
        rw [if_neg (show ¬ (false = true) by decide)] at H
        have H' := Aside0.mk H
        clear H
        go_wp2
        go_loopg [5] kj4 (fun kq v5 w' => ∃ (x5_3 : Int),v5 = .int .i64 x5_3 ∧ Aside0 (spec_StoreOK.l1 kq x3_1 x5_3 l0_0 a0_1 ((rd_T32 l0_0 x3_1).f0) ((rd_T32 l0_0 x3_1).f1) ((rd_T32 l0_0 x3_1).f2) = some r) ∧ Aside0 (kq ≤ kj4) ∧ Aside0 (w'.heap[gb427]? = some (.cells #[(.slice (some ad429) l0_0.length c0_0),.int .i64 a0_1] 25 (0,0))) ∧ Aside0 (w'.heap[gb430]? = some (.cells #[.string ((rd_T32 l0_0 x3_1).f0),.int .i64 ((rd_T32 l0_0 x3_1).f1),.string ((rd_T32 l0_0 x3_1).f2)] 32 (0,0))) ∧ Aside0 (Below w.heap.size w w'))
        case atStart => exact ⟨(0),(by first | rfl | (simp; done) | (simp [*]; done)),H',⟨Nat.le_refl _⟩,⟨kA BK427.out⟩,⟨kA BK430.out⟩,⟨bA⟩⟩
        case round =>
         clear H'
         try clear c1
         try clear c2
         try clear p2
         try clear c3
         try clear c5
         try clear p6
         try clear c11
         try clear c13
         try clear c29
         try clear p2
         try clear p6
         obtain ⟨x5_3,rfl,HA,HK3,BK427,BK430,HB⟩ := hrel
         cases gk with
         | zero => exact absurd HA.out (by simp [spec_StoreOK.l1])
         | succ k3 =>
          have H := HA.out
          clear HA
          simp only [spec_StoreOK.l1] at H
          by_cases c30 : x5_3 < x3_1
          ·rw [if_pos c30] at H
           have c30b0 : decide (x5_3 < x3_1) = true := decide_eq_true c30
           clear c30
           by_cases c31 : 0 ≤ x5_3
           ·rw [if_pos c31] at H
            have c31b0 : decide (0 ≤ x5_3) = true := decide_eq_true c31
            clear c31
            by_cases c32 : x5_3 < (l0_0.length : Int)
            ·rw [if_pos c32] at H
             have c32b0 : decide (x5_3 < (l0_0.length : Int)) = true := decide_eq_true c32
             clear c32
             by_cases c33 : ((rd_T32 l0_0 x5_3).f1) = ((rd_T32 l0_0 x3_1).f1)
             ·rw [if_pos c33] at H
              have c33b0 : (((rd_T32 l0_0 x5_3).f1) == ((rd_T32 l0_0 x3_1).f1)) = true := beq_iff_eq.mpr c33
              have c33b1 : (((rd_T32 l0_0 x5_3).f1) != ((rd_T32 l0_0 x3_1).f1)) = false := bne_eq_false_iff_eq.mpr c33
              clear c33
              obtain rfl := Option.some.inj H
              try go_wp2
              replace BK427 := Aside0.mk (blk_drew BK427.out)
              replace BK430 := Aside0.mk (blk_drew BK430.out)
              replace HB := Aside0.mk (below_drew1 HB.out)
              have p434 : 0 ≤ (x5_3 : Int) := od
              have q434 : x5_3 < (l0_0.length : Int) := od
              obtain ⟨ad434,e434,hx434_0,hx434_1,hx434_2⟩ := at_T32 HR0_0.out x5_3 p434 q434
              have hw434_2 := hx434_2
              have hw434_1 := hx434_1
              have hw434_0 := hx434_0
              obtain rfl : ad429 = ad434 := (by injection e434)
              replace hx434_0 := cb HB.out hx434_0
              replace hx434_1 := cb HB.out hx434_1
              replace hx434_2 := cb HB.out hx434_2
              replace p434 := eq_true p434
              replace q434 := eq_true q434
              refine start_ (n:=9) (S:=fun w' => w'.cell? ⟨gb427,0,none⟩ = some (.slice (some ad429) l0_0.length c0_0) ∧ w'.cell? ⟨gb427,1,none⟩ = some (.int .i64 a0_1) ∧ w'.cell? ⟨gb430,0,none⟩ = some (.string ((rd_T32 l0_0 x3_1).f0)) ∧ w'.cell? ⟨gb430,1,none⟩ = some (.int .i64 ((rd_T32 l0_0 x3_1).f1)) ∧ w'.cell? ⟨gb430,2,none⟩ = some (.string ((rd_T32 l0_0 x3_1).f2)) ∧ w'.cell? (ad429.add ((x5_3).toNat * 3)) = some (.string ((rd_T32 l0_0 x5_3).f0)) ∧ w'.cell? ⟨(ad429.add ((x5_3).toNat * 3)).block,(ad429.add ((x5_3).toNat * 3)).off + 1,none⟩ = some (.int .i64 ((rd_T32 l0_0 x5_3).f1)) ∧ w'.cell? ⟨(ad429.add ((x5_3).toNat * 3)).block,(ad429.add ((x5_3).toNat * 3)).off + 2,none⟩ = some (.string ((rd_T32 l0_0 x5_3).f2))) (ds := []) (bm 9 0) (by kernel_rfl) rfl rfl ⟨bl BK427 0,bl BK427 1,bl BK430 0,bl BK430 1,bl BK430 2,(cb HB.out hw434_0),(cb HB.out hw434_1),(cb HB.out hw434_2)⟩ (fun hHeld => ?_); refine with_tabW spec_StoreOK.tab10 spec_StoreOK.bits10 (fun HT_ HW_ => ?_)
              generalize wr.drew = w34 at BK427 BK430 HB hx434_0 hx434_1 hx434_2 hHeld ⊢
              refine pV_ 0 58 (bm 9 1) HT_.out ?_
              refine pV_ 2 60 (bm 9 5) HT_.out ?_
              refine pV_ 6 64 (bm 9 69) HT_.out ?_
              refine tk 1 59 (bm 9 71) HT_.out HW_.out hHeld ?_
              refine pV_ 3 61 (bm 9 79) HT_.out ?_
              refine pV_ 4 62 (bm 9 95) HT_.out ?_
              refine tk 5 63 (bm 9 127) HT_.out HW_.out hHeld ?_
              refine tk 7 65 (bm 9 255) HT_.out HW_.out hHeld ?_
              refine pV_ 8 66 (bm 9 511) HT_.out ?_
              refine done_ (done_of HT_.out (by kernel_rfl)) ?_
              try go_wp2
              go_ret
              exact ⟨by first | rfl | (simp only [i64_w,i32_w] <;> rfl) | (simp [errW_none,errW_some] <;> rfl) | (simp [*,errW_none,errW_some] <;> rfl),bA⟩
             ·rw [if_neg c33] at H
              have c33b0 : (((rd_T32 l0_0 x5_3).f1) == ((rd_T32 l0_0 x3_1).f1)) = false := beq_eq_false_iff_ne.mpr c33
              have c33b1 : (((rd_T32 l0_0 x5_3).f1) != ((rd_T32 l0_0 x3_1).f1)) = true := bne_iff_ne.mpr c33
              have H' := Aside0.mk H
              clear H
              try go_wp2
              replace BK427 := Aside0.mk (blk_drew BK427.out)
              replace BK430 := Aside0.mk (blk_drew BK430.out)
              replace HB := Aside0.mk (below_drew1 HB.out)
              have p434 : 0 ≤ (x5_3 : Int) := od
              have q434 : x5_3 < (l0_0.length : Int) := od
              obtain ⟨ad434,e434,hx434_0,hx434_1,hx434_2⟩ := at_T32 HR0_0.out x5_3 p434 q434
              have hw434_2 := hx434_2
              have hw434_1 := hx434_1
              have hw434_0 := hx434_0
              obtain rfl : ad429 = ad434 := (by injection e434)
              replace hx434_0 := cb HB.out hx434_0
              replace hx434_1 := cb HB.out hx434_1
              replace hx434_2 := cb HB.out hx434_2
              replace p434 := eq_true p434
              replace q434 := eq_true q434
              refine start_ (n:=9) (S:=fun w' => w'.cell? ⟨gb427,0,none⟩ = some (.slice (some ad429) l0_0.length c0_0) ∧ w'.cell? ⟨gb427,1,none⟩ = some (.int .i64 a0_1) ∧ w'.cell? ⟨gb430,0,none⟩ = some (.string ((rd_T32 l0_0 x3_1).f0)) ∧ w'.cell? ⟨gb430,1,none⟩ = some (.int .i64 ((rd_T32 l0_0 x3_1).f1)) ∧ w'.cell? ⟨gb430,2,none⟩ = some (.string ((rd_T32 l0_0 x3_1).f2)) ∧ w'.cell? (ad429.add ((x5_3).toNat * 3)) = some (.string ((rd_T32 l0_0 x5_3).f0)) ∧ w'.cell? ⟨(ad429.add ((x5_3).toNat * 3)).block,(ad429.add ((x5_3).toNat * 3)).off + 1,none⟩ = some (.int .i64 ((rd_T32 l0_0 x5_3).f1)) ∧ w'.cell? ⟨(ad429.add ((x5_3).toNat * 3)).block,(ad429.add ((x5_3).toNat * 3)).off + 2,none⟩ = some (.string ((rd_T32 l0_0 x5_3).f2))) (ds := []) (bm 9 0) (by kernel_rfl) rfl rfl ⟨bl BK427 0,bl BK427 1,bl BK430 0,bl BK430 1,bl BK430 2,(cb HB.out hw434_0),(cb HB.out hw434_1),(cb HB.out hw434_2)⟩ (fun hHeld => ?_); refine with_tabW spec_StoreOK.tab10 spec_StoreOK.bits10 (fun HT_ HW_ => ?_)
              generalize wr.drew = w35 at BK427 BK430 HB hx434_0 hx434_1 hx434_2 hHeld ⊢
              refine pV_ 0 58 (bm 9 1) HT_.out ?_
              refine pV_ 2 60 (bm 9 5) HT_.out ?_
              refine pV_ 6 64 (bm 9 69) HT_.out ?_
              refine tk 1 59 (bm 9 71) HT_.out HW_.out hHeld ?_
              refine pV_ 3 61 (bm 9 79) HT_.out ?_
              refine pV_ 4 62 (bm 9 95) HT_.out ?_
              refine tk 5 63 (bm 9 127) HT_.out HW_.out hHeld ?_
              refine tk 7 65 (bm 9 255) HT_.out HW_.out hHeld ?_
              refine pV_ 8 66 (bm 9 511) HT_.out ?_
              refine done_ (done_of HT_.out (by kernel_rfl)) ?_
              try go_wp2
              go_roundg k3
              case measure => have := HK1.out; have := HJ4.out; have := HK3.out; omega
              case rel => exact ⟨(wrap64 (x5_3 + 1)),(by first | rfl | (simp; done) | (simp [*]; done)),H',⟨by have := HK1.out; have := HJ4.out; have := HK3.out; omega⟩,⟨kA BK427.out⟩,⟨kA BK430.out⟩,⟨bA⟩⟩
            ·rw [if_neg c32] at H
             exact absurd H (by simp)
           ·rw [if_neg c31] at H
            exact absurd H (by simp)
          ·rw [if_neg c30] at H
           have c30b0 : decide (x5_3 < x3_1) = false := decide_eq_false c30
           clear c30
           have H' := Aside0.mk H
           clear H
           go_wp2
           go_roundg k3
           case measure => have := HK1.out; have := HJ4.out; have := HK3.out; omega
           case rel => exact ⟨(wrap64 (x3_1 + 1)),(by first | rfl | (simp; done) | (simp [*]; done)),H',⟨by have := HK1.out; have := HJ4.out; have := HK3.out; omega⟩,⟨kA BK427.out⟩,⟨bA⟩⟩
    ·rw [if_neg c4] at H
     exact absurd H (by simp)
   ·rw [if_neg c3] at H
    have c3b0 : decide (x3_1 < (l0_0.length : Int)) = false := decide_eq_false c3
    clear c3
    by_cases c36 : (l0_0.length : Int) ≤ 300
    ·rw [if_pos c36] at H
     have c36b0 : decide ((l0_0.length : Int) ≤ 300) = true := decide_eq_true c36
     have c36b1 : decide (l0_0.length ≤ 300) = true := decide_eq_true (by omega)
     clear c36
     replace H := Option.bind_eq_some_iff.mp H
     obtain ⟨t428,A370,H⟩ := H
     try dsimp only at H
     have A37 := Aside0.mk A370
     clear A370
     obtain rfl := Option.some.inj H
     obtain ⟨hcz38_0,hcz38_1⟩ := cl2 BK427.out
     obtain ⟨hfz38_0,hfz38_1⟩ := fz2 BK427.out
     go_wp2_with (first | (go_at_call 31; (with_reducible refine (spec_l01In.calls a0_1 1 1000000000 t428 _ A37.out).mono ?_); rintro e w' ⟨rfl,⟨nd,rfl⟩⟩))
     go_ret
     exact ⟨by first | rfl | (simp only [i64_w,i32_w] <;> rfl) | (simp [errW_none,errW_some] <;> rfl) | (simp [*,errW_none,errW_some] <;> rfl),bA⟩
    ·rw [if_neg c36] at H
     have c36b0 : decide ((l0_0.length : Int) ≤ 300) = false := decide_eq_false c36
     have c36b1 : decide (l0_0.length ≤ 300) = false := decide_eq_false (by omega)
     clear c36
     obtain rfl := Option.some.inj H
     obtain ⟨hcz39_0,hcz39_1⟩ := cl2 BK427.out
     obtain ⟨hfz39_0,hfz39_1⟩ := fz2 BK427.out
     go_wp2
     go_ret
     exact ⟨by first | rfl | (simp only [i64_w,i32_w] <;> rfl) | (simp [errW_none,errW_some] <;> rfl) | (simp [*,errW_none,errW_some] <;> rfl),bA⟩

end Go.Proofs.Ytgkfemnfbkgeiaa.XFnStore
