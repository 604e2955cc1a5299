-- Printed by this session's own program wip/tools/xprint.py, which widens the kit's print. Not trusted: Lean checks it.
import Derived.Test.YtbdhpmamlibmhaaDoorXFnExactReadBucketsx0
import Derived.Test.YtbdhpmamlibmhaaDoorXFnExactReadBucketsx3
import Derived.Test.YtbdhpmamlibmhaaDoorXFnExactReadBucketsx4
namespace Go.Proofs.YtbdhpmamlibmhaaDoor.XFnExactReadBuckets
open List (setIfInBounds_toArray set_cons_zero set_cons_succ)
open Go.RowKit Go.Proofs.YtbdhpmamlibmhaaDoorW.PrintWords Go.Proofs.YtbdhpmamlibmhaaDoorW.PrintLast Go.Proofs.YtbdhpmamlibmhaaDoorW.PrintMore
attribute [local go_sem] max2_int min2_int max_two min_two max_three min_three max_four min_four   -- for this text's walks alone
set_option linter.unusedVariables false
set_option linter.unusedSimpArgs false

/-! ### spec_BucketsOK: function 108 -/
def spec_BucketsOK.l0 : Nat → List (S88) → Int → Option (Bool)
 | 0,_,_ => none
 | k + 1,x0,x3 => if x3 < (x0.length : Int) then (if 0 ≤ x3 then ((spec_l01In.f ((rd_T88 x0 x3).f0) 0 99999).bind fun t158 => (if t158 = true then ((spec_AggOK.f ((rd_T88 x0 x3).f1.f0) ((rd_T88 x0 x3).f1.f1) ((rd_T88 x0 x3).f1.f2) ((rd_T88 x0 x3).f1.f3) ((rd_T88 x0 x3).f1.f4) ((rd_T88 x0 x3).f1.f5)).bind fun t160 => (if t160 = true then (if ((rd_T88 x0 x3).f1.f0) = 0 then (some false) else (if x3 > 0 then (if 0 ≤ (wrap64 (x3 - 1)) then (if (wrap64 (x3 - 1)) < (x0.length : Int) then (if ((rd_T88 x0 (wrap64 (x3 - 1))).f0) ≥ ((rd_T88 x0 x3).f0) then (some false) else (spec_BucketsOK.l0 k x0 (wrap64 (x3 + 1)))) else (none)) else (none)) else (spec_BucketsOK.l0 k x0 (wrap64 (x3 + 1))))) else (some false))) else (some false))) else (none)) else (some (decide ((x0.length : Int) ≤ 8)))
def spec_BucketsOK.f (k : Nat) (l0 : List (S88)) : Option (Bool) := if (l0.length : Int) > 4096 then (some false) else (spec_BucketsOK.l0 k l0 0)
theorem spec_BucketsOK.mono_l : ∀ k,(∀ y0 y1,LeO (spec_BucketsOK.l0 k y0 y1) (spec_BucketsOK.l0 (k + 1) y0 y1))
 | 0 => fun _ _ r h => by simp [spec_BucketsOK.l0] at h
 | k + 1 => by
  have ih0 := spec_BucketsOK.mono_l k
  ·intro y0 y1
   unfold spec_BucketsOK.l0
   repeat' first
   | (with_reducible exact ih0 _ _)
   | (with_reducible exact LeO.refl _)
   | (with_reducible exact LeO.none _)
   | (with_reducible refine LeO.ite ?_ ?_)
   | (with_reducible refine LeO.bind ?_ (fun _ => ?_))
   | exact ih0 _ _
   | exact LeO.none _
   | refine LeO.ite ?_ ?_
   | refine LeO.bind ?_ (fun _ => ?_)
theorem spec_BucketsOK.mono : ∀ a0 k,LeO (spec_BucketsOK.f k a0) (spec_BucketsOK.f (k + 1) a0) := by
 intro a0 k
 have ih0 := spec_BucketsOK.mono_l k
 unfold spec_BucketsOK.f
 repeat' first
   | (with_reducible exact ih0 _ _)
   | (with_reducible exact LeO.refl _)
   | (with_reducible exact LeO.none _)
   | (with_reducible refine LeO.ite ?_ ?_)
   | (with_reducible refine LeO.bind ?_ (fun _ => ?_))
   | exact ih0 _ _
   | exact LeO.none _
   | refine LeO.ite ?_ ?_
   | refine LeO.bind ?_ (fun _ => ?_)
def spec_BucketsOK.T6 : Bool × List (List Nat × List Nat) := (true,[([],[]),([],[]),([0,1],[0,1]),([2],[2]),([3],[3]),([4],[4]),([5],[5]),([6,5],[6]),([7],[7]),([7],[7]),([8,9,7],[7,8,9]),([10,7],[7,10]),([11,7],[7,11]),([12,7,7],[7,12]),([13,7],[7,13]),([7,14],[7,14]),([15,13],[15]),([16],[16]),([16],[16]),([17,18,16],[16,17,18]),([19,16],[16,19]),([20,16],[16,20]),([21,16],[16,21]),([22,16],[16,22]),([16,23],[16,23]),([24,16],[24]),([25],[25]),([26,25],[25,26]),([27,25,25],[25,27]),([28],[28]),([28],[28]),([30,28],[28,30]),([29,31,28],[28,29,31]),([32,28],[28,32]),([33,28],[28,33]),([28],[28]),([28],[28]),([35,36,28],[28,35,36]),([37,28],[28,37]),([38,28],[28,38]),([34,39,28],[28,34,39]),([28,40,25],[25,28,40]),([25,41],[25,41])])
def spec_BucketsOK.B6 : List Nat := [0,0,3,7,15,31,63,127,255,255,1023,2047,4095,8191,16383,32767,65535,131071,131071,524287,1048575,2097151,4194303,8388607,16777215,33554431,67108863,134217727,268435455,536870911,536870911,1610612735,4294967295,8589934591,17179869183,536870911,536870911,103616086015,241055039487,515932946431,1099511627775,2199023255551,4398046511103]
theorem spec_BucketsOK.tab6 : rtab .any (opsOf Tryd.f108 6) = spec_BucketsOK.T6 := by kernel_rfl
theorem spec_BucketsOK.bits6 : waitsOk spec_BucketsOK.T6.2 spec_BucketsOK.B6 = true := by kernel_rfl
set_option maxHeartbeats 8000000 in
set_option maxRecDepth 100000 in
theorem spec_BucketsOK.calls (k : Nat) (A0 : Option Addr) (c0 : Nat) (l0 : List (S88)) (r : Bool) (w : World) (hr0 : Kd.C k88 w A0 l0.length l0) (hc0 : l0.length ≤ c0) (h : spec_BucketsOK.f k l0 = some r) :
  Calls Tryd.prog 108 #[.slice A0 l0.length c0] w fun e w' => e = .returned (.bool r) ∧ Below w.heap.size w w' := by
 have hu38 := Tryd.underlying38
 have HR0 := Aside0.mk hr0
 have HC0 := Aside0.mk hc0
 clear hr0 hc0
 have HB := Aside0.mk (Below.refl w.heap.size w)
 have H : (if (l0.length : Int) > 4096 then (some false) else (spec_BucketsOK.l0 k l0 0)) = some r := h
 clear h
 by_cases c2 : (l0.length : Int) > 4096
 ·rw [if_pos c2] at H
  have c2b0 : decide (4096 < (l0.length : Int)) = true := decide_eq_true c2
  have c2b1 : decide (4096 < l0.length) = true := decide_eq_true (by omega)
  clear c2
  obtain rfl := Option.some.inj H
  go_enter Tryd.func108,Tryd.ntmps108
  go_wp2
  go_ret
  exact ⟨by first | rfl | (simp only [i64_w,i32_w] <;> rfl) | (simp [errW_none,errW_some] <;> rfl) | (simp [*,errW_none,errW_some] <;> rfl),by repeat (first | (with_reducible first | exact HB.out | apply below_alloc | apply pw_below_drewN | apply below_drew1) | exact HB.out)⟩
 ·rw [if_neg c2] at H
  have c2b0 : decide (4096 < (l0.length : Int)) = false := decide_eq_false c2
  have c2b1 : decide (4096 < l0.length) = false := decide_eq_false (by omega)
  clear c2
  have H' := Aside0.mk H
  clear H
  go_enter Tryd.func108,Tryd.ntmps108
  go_wp2
  go_loopg [3] k (fun kq v3 w' => ∃ (x3_1 : Int),v3 = .int .i64 x3_1 ∧ Aside0 (spec_BucketsOK.l0 kq l0 x3_1 = some r) ∧ Aside0 (kq ≤ k) ∧ Aside0 (Below w.heap.size w w'))
  case atStart => exact ⟨(0),(by first | rfl | (simp; done) | (simp [*]; done)),H',⟨Nat.le_refl _⟩,⟨by repeat (first | (with_reducible first | exact HB.out | apply below_alloc | apply pw_below_drewN | apply below_drew1) | exact HB.out)⟩⟩
  case round =>
   clear H'
   try clear c1
   try clear c2
   try clear c2b0
   try clear c2b1
   try clear p2
   obtain ⟨x3_1,rfl,HA,HK1,HB⟩ := hrel
   cases gk with
   | zero => exact absurd HA.out (by simp [spec_BucketsOK.l0])
   | succ k1 =>
    have H := HA.out
    clear HA
    simp only [spec_BucketsOK.l0] at H
    by_cases c3 : x3_1 < (l0.length : Int)
    ·rw [if_pos c3] at H
     have c3b0 : decide (x3_1 < (l0.length : Int)) = true := decide_eq_true c3
     clear c3
     by_cases c4 : 0 ≤ x3_1
     ·rw [if_pos c4] at H
      have c4b0 : decide (0 ≤ x3_1) = true := decide_eq_true c4
      clear c4
      replace H := Option.bind_eq_some_iff.mp H
      obtain ⟨t158,A50,H⟩ := H
      replace H : (if t158 = true then ((spec_AggOK.f ((rd_T88 l0 x3_1).f1.f0) ((rd_T88 l0 x3_1).f1.f1) ((rd_T88 l0 x3_1).f1.f2) ((rd_T88 l0 x3_1).f1.f3) ((rd_T88 l0 x3_1).f1.f4) ((rd_T88 l0 x3_1).f1.f5)).bind fun t160 => (if t160 = true then (if ((rd_T88 l0 x3_1).f1.f0) = 0 then (some false) else (if x3_1 > 0 then (if 0 ≤ (wrap64 (x3_1 - 1)) then (if (wrap64 (x3_1 - 1)) < (l0.length : Int) then (if ((rd_T88 l0 (wrap64 (x3_1 - 1))).f0) ≥ ((rd_T88 l0 x3_1).f0) then (some false) else (spec_BucketsOK.l0 k1 l0 (wrap64 (x3_1 + 1)))) else (none)) else (none)) else (spec_BucketsOK.l0 k1 l0 (wrap64 (x3_1 + 1))))) else (some false))) else (some false)) = some r := H
      have A5 := Aside0.mk A50
      clear A50
      by_cases c6 : t158 = true
      ·subst c6
       have H1 : ((spec_AggOK.f ((rd_T88 l0 x3_1).f1.f0) ((rd_T88 l0 x3_1).f1.f1) ((rd_T88 l0 x3_1).f1.f2) ((rd_T88 l0 x3_1).f1.f3) ((rd_T88 l0 x3_1).f1.f4) ((rd_T88 l0 x3_1).f1.f5)).bind fun t160 => (if t160 = true then (if ((rd_T88 l0 x3_1).f1.f0) = 0 then (some false) else (if x3_1 > 0 then (if 0 ≤ (wrap64 (x3_1 - 1)) then (if (wrap64 (x3_1 - 1)) < (l0.length : Int) then (if ((rd_T88 l0 (wrap64 (x3_1 - 1))).f0) ≥ ((rd_T88 l0 x3_1).f0) then (some false) else (spec_BucketsOK.l0 k1 l0 (wrap64 (x3_1 + 1)))) else (none)) else (none)) else (spec_BucketsOK.l0 k1 l0 (wrap64 (x3_1 + 1))))) else (some false))) = some r := by rw [if_pos rfl] at H; exact H
       clear H
       have H := H1
       clear H1
       replace H := Option.bind_eq_some_iff.mp H
       obtain ⟨t160,A70,H⟩ := H
       replace H : (if t160 = true then (if ((rd_T88 l0 x3_1).f1.f0) = 0 then (some false) else (if x3_1 > 0 then (if 0 ≤ (wrap64 (x3_1 - 1)) then (if (wrap64 (x3_1 - 1)) < (l0.length : Int) then (if ((rd_T88 l0 (wrap64 (x3_1 - 1))).f0) ≥ ((rd_T88 l0 x3_1).f0) then (some false) else (spec_BucketsOK.l0 k1 l0 (wrap64 (x3_1 + 1)))) else (none)) else (none)) else (spec_BucketsOK.l0 k1 l0 (wrap64 (x3_1 + 1))))) else (some false)) = some r := H
       have A7 := Aside0.mk A70
       clear A70
       by_cases c8 : t160 = true
       ·subst c8
        have H1 : (if ((rd_T88 l0 x3_1).f1.f0) = 0 then (some false) else (if x3_1 > 0 then (if 0 ≤ (wrap64 (x3_1 - 1)) then (if (wrap64 (x3_1 - 1)) < (l0.length : Int) then (if ((rd_T88 l0 (wrap64 (x3_1 - 1))).f0) ≥ ((rd_T88 l0 x3_1).f0) then (some false) else (spec_BucketsOK.l0 k1 l0 (wrap64 (x3_1 + 1)))) else (none)) else (none)) else (spec_BucketsOK.l0 k1 l0 (wrap64 (x3_1 + 1))))) = some r := by rw [if_pos rfl] at H; exact H
        clear H
        have H := H1
        clear H1
        by_cases c9 : ((rd_T88 l0 x3_1).f1.f0) = 0
        ·rw [if_pos c9] at H
         have c9b0 : (((rd_T88 l0 x3_1).f1.f0) == 0) = true := beq_iff_eq.mpr c9
         have c9b1 : (((rd_T88 l0 x3_1).f1.f0) != 0) = false := bne_eq_false_iff_eq.mpr c9
         clear c9
         obtain rfl := Option.some.inj H
         try go_wp2
         have n0_ := Aside0.mk (below_drew1 HB.out)
         clear HB
         have HB := n0_
         clear n0_
         have p157 : 0 ≤ (x3_1 : Int) := of_decide_eq_true (by first | (with_reducible assumption) | assumption)
         have q157 : x3_1 < (l0.length : Int) := of_decide_eq_true (by first | (with_reducible assumption) | assumption)
         obtain ⟨ad157,e157,hx157_0,hx157_1,hx157_2,hx157_3,hx157_4,hx157_5,hx157_6⟩ := at_T88 HR0.out x3_1 p157 q157
         have hw157_6 := hx157_6
         have hw157_5 := hx157_5
         have hw157_4 := hx157_4
         have hw157_3 := hx157_3
         have hw157_2 := hx157_2
         have hw157_1 := hx157_1
         have hw157_0 := hx157_0
         cases e157
         replace hx157_0 := (HB.out.cell (bl_ w _ hx157_0)).trans hx157_0
         replace hx157_1 := (HB.out.cell (bl_ w _ hx157_1)).trans hx157_1
         replace hx157_2 := (HB.out.cell (bl_ w _ hx157_2)).trans hx157_2
         replace hx157_3 := (HB.out.cell (bl_ w _ hx157_3)).trans hx157_3
         replace hx157_4 := (HB.out.cell (bl_ w _ hx157_4)).trans hx157_4
         replace hx157_5 := (HB.out.cell (bl_ w _ hx157_5)).trans hx157_5
         replace hx157_6 := (HB.out.cell (bl_ w _ hx157_6)).trans hx157_6
         replace p157 := eq_true p157
         replace q157 := eq_true q157
         have p159 : 0 ≤ (x3_1 : Int) := of_decide_eq_true (by first | (with_reducible assumption) | assumption)
         have q159 : x3_1 < (l0.length : Int) := of_decide_eq_true (by first | (with_reducible assumption) | assumption)
         obtain ⟨ad159,e159,hx159_0,hx159_1,hx159_2,hx159_3,hx159_4,hx159_5,hx159_6⟩ := at_T88 HR0.out x3_1 p159 q159
         have hw159_6 := hx159_6
         have hw159_5 := hx159_5
         have hw159_4 := hx159_4
         have hw159_3 := hx159_3
         have hw159_2 := hx159_2
         have hw159_1 := hx159_1
         have hw159_0 := hx159_0
         obtain rfl : ad157 = ad159 := (by injection e159)
         replace hx159_0 := (HB.out.cell (bl_ w _ hx159_0)).trans hx159_0
         replace hx159_1 := (HB.out.cell (bl_ w _ hx159_1)).trans hx159_1
         replace hx159_2 := (HB.out.cell (bl_ w _ hx159_2)).trans hx159_2
         replace hx159_3 := (HB.out.cell (bl_ w _ hx159_3)).trans hx159_3
         replace hx159_4 := (HB.out.cell (bl_ w _ hx159_4)).trans hx159_4
         replace hx159_5 := (HB.out.cell (bl_ w _ hx159_5)).trans hx159_5
         replace hx159_6 := (HB.out.cell (bl_ w _ hx159_6)).trans hx159_6
         replace p159 := eq_true p159
         replace q159 := eq_true q159
         have p161 : 0 ≤ (x3_1 : Int) := of_decide_eq_true (by first | (with_reducible assumption) | assumption)
         have q161 : x3_1 < (l0.length : Int) := of_decide_eq_true (by first | (with_reducible assumption) | assumption)
         obtain ⟨ad161,e161,hx161_0,hx161_1,hx161_2,hx161_3,hx161_4,hx161_5,hx161_6⟩ := at_T88 HR0.out x3_1 p161 q161
         have hw161_6 := hx161_6
         have hw161_5 := hx161_5
         have hw161_4 := hx161_4
         have hw161_3 := hx161_3
         have hw161_2 := hx161_2
         have hw161_1 := hx161_1
         have hw161_0 := hx161_0
         obtain rfl : ad157 = ad161 := (by injection e161)
         replace hx161_0 := (HB.out.cell (bl_ w _ hx161_0)).trans hx161_0
         replace hx161_1 := (HB.out.cell (bl_ w _ hx161_1)).trans hx161_1
         replace hx161_2 := (HB.out.cell (bl_ w _ hx161_2)).trans hx161_2
         replace hx161_3 := (HB.out.cell (bl_ w _ hx161_3)).trans hx161_3
         replace hx161_4 := (HB.out.cell (bl_ w _ hx161_4)).trans hx161_4
         replace hx161_5 := (HB.out.cell (bl_ w _ hx161_5)).trans hx161_5
         replace hx161_6 := (HB.out.cell (bl_ w _ hx161_6)).trans hx161_6
         replace p161 := eq_true p161
         replace q161 := eq_true q161
         refine start_ (n:=43) (S:=fun w' => w'.cell? (ad157.add ((x3_1).toNat * 7)) = some (.int .i64 ((rd_T88 l0 x3_1).f0)) ∧ w'.cell? ⟨(ad157.add ((x3_1).toNat * 7)).block,(ad157.add ((x3_1).toNat * 7)).off + 1,none⟩ = some (.int .i64 ((rd_T88 l0 x3_1).f1.f0)) ∧ w'.cell? ⟨(ad157.add ((x3_1).toNat * 7)).block,(ad157.add ((x3_1).toNat * 7)).off + 2,none⟩ = some (.int .i64 ((rd_T88 l0 x3_1).f1.f1)) ∧ w'.cell? ⟨(ad157.add ((x3_1).toNat * 7)).block,(ad157.add ((x3_1).toNat * 7)).off + 3,none⟩ = some (.int .i64 ((rd_T88 l0 x3_1).f1.f2)) ∧ w'.cell? ⟨(ad157.add ((x3_1).toNat * 7)).block,(ad157.add ((x3_1).toNat * 7)).off + 4,none⟩ = some (.int .i64 ((rd_T88 l0 x3_1).f1.f3)) ∧ w'.cell? ⟨(ad157.add ((x3_1).toNat * 7)).block,(ad157.add ((x3_1).toNat * 7)).off + 5,none⟩ = some (.int .i64 ((rd_T88 l0 x3_1).f1.f4)) ∧ w'.cell? ⟨(ad157.add ((x3_1).toNat * 7)).block,(ad157.add ((x3_1).toNat * 7)).off + 6,none⟩ = some (.int .i64 ((rd_T88 l0 x3_1).f1.f5)) ∧ w'.cell? (ad157.add ((x3_1).toNat * 7)) = some (.int .i64 ((rd_T88 l0 x3_1).f0)) ∧ w'.cell? ⟨(ad157.add ((x3_1).toNat * 7)).block,(ad157.add ((x3_1).toNat * 7)).off + 1,none⟩ = some (.int .i64 ((rd_T88 l0 x3_1).f1.f0)) ∧ w'.cell? ⟨(ad157.add ((x3_1).toNat * 7)).block,(ad157.add ((x3_1).toNat * 7)).off + 2,none⟩ = some (.int .i64 ((rd_T88 l0 x3_1).f1.f1)) ∧ w'.cell? ⟨(ad157.add ((x3_1).toNat * 7)).block,(ad157.add ((x3_1).toNat * 7)).off + 3,none⟩ = some (.int .i64 ((rd_T88 l0 x3_1).f1.f2)) ∧ w'.cell? ⟨(ad157.add ((x3_1).toNat * 7)).block,(ad157.add ((x3_1).toNat * 7)).off + 4,none⟩ = some (.int .i64 ((rd_T88 l0 x3_1).f1.f3)) ∧ w'.cell? ⟨(ad157.add ((x3_1).toNat * 7)).block,(ad157.add ((x3_1).toNat * 7)).off + 5,none⟩ = some (.int .i64 ((rd_T88 l0 x3_1).f1.f4)) ∧ w'.cell? ⟨(ad157.add ((x3_1).toNat * 7)).block,(ad157.add ((x3_1).toNat * 7)).off + 6,none⟩ = some (.int .i64 ((rd_T88 l0 x3_1).f1.f5)) ∧ w'.cell? (ad157.add ((x3_1).toNat * 7)) = some (.int .i64 ((rd_T88 l0 x3_1).f0)) ∧ w'.cell? ⟨(ad157.add ((x3_1).toNat * 7)).block,(ad157.add ((x3_1).toNat * 7)).off + 1,none⟩ = some (.int .i64 ((rd_T88 l0 x3_1).f1.f0)) ∧ w'.cell? ⟨(ad157.add ((x3_1).toNat * 7)).block,(ad157.add ((x3_1).toNat * 7)).off + 2,none⟩ = some (.int .i64 ((rd_T88 l0 x3_1).f1.f1)) ∧ w'.cell? ⟨(ad157.add ((x3_1).toNat * 7)).block,(ad157.add ((x3_1).toNat * 7)).off + 3,none⟩ = some (.int .i64 ((rd_T88 l0 x3_1).f1.f2)) ∧ w'.cell? ⟨(ad157.add ((x3_1).toNat * 7)).block,(ad157.add ((x3_1).toNat * 7)).off + 4,none⟩ = some (.int .i64 ((rd_T88 l0 x3_1).f1.f3)) ∧ w'.cell? ⟨(ad157.add ((x3_1).toNat * 7)).block,(ad157.add ((x3_1).toNat * 7)).off + 5,none⟩ = some (.int .i64 ((rd_T88 l0 x3_1).f1.f4)) ∧ w'.cell? ⟨(ad157.add ((x3_1).toNat * 7)).block,(ad157.add ((x3_1).toNat * 7)).off + 6,none⟩ = some (.int .i64 ((rd_T88 l0 x3_1).f1.f5))) (ds := []) #[F,F,F,F,F,F,F,F,F,F,F,F,F,F,F,F,F,F,F,F,F,F,F,F,F,F,F,F,F,F,F,F,F,F,F,F,F,F,F,F,F,F,F] (by kernel_rfl) rfl rfl ⟨((HB.out.cell (bl_ w _ hw157_0)).trans hw157_0),((HB.out.cell (bl_ w _ hw157_1)).trans hw157_1),((HB.out.cell (bl_ w _ hw157_2)).trans hw157_2),((HB.out.cell (bl_ w _ hw157_3)).trans hw157_3),((HB.out.cell (bl_ w _ hw157_4)).trans hw157_4),((HB.out.cell (bl_ w _ hw157_5)).trans hw157_5),((HB.out.cell (bl_ w _ hw157_6)).trans hw157_6),((HB.out.cell (bl_ w _ hw159_0)).trans hw159_0),((HB.out.cell (bl_ w _ hw159_1)).trans hw159_1),((HB.out.cell (bl_ w _ hw159_2)).trans hw159_2),((HB.out.cell (bl_ w _ hw159_3)).trans hw159_3),((HB.out.cell (bl_ w _ hw159_4)).trans hw159_4),((HB.out.cell (bl_ w _ hw159_5)).trans hw159_5),((HB.out.cell (bl_ w _ hw159_6)).trans hw159_6),((HB.out.cell (bl_ w _ hw161_0)).trans hw161_0),((HB.out.cell (bl_ w _ hw161_1)).trans hw161_1),((HB.out.cell (bl_ w _ hw161_2)).trans hw161_2),((HB.out.cell (bl_ w _ hw161_3)).trans hw161_3),((HB.out.cell (bl_ w _ hw161_4)).trans hw161_4),((HB.out.cell (bl_ w _ hw161_5)).trans hw161_5),((HB.out.cell (bl_ w _ hw161_6)).trans hw161_6)⟩ (fun hHeld => ?_); refine with_tabW spec_BucketsOK.tab6 spec_BucketsOK.bits6 (fun HT_ HW_ => ?_)
         generalize wr.drew = w10 at HB hx157_0 hx157_1 hx157_2 hx157_3 hx157_4 hx157_5 hx157_6 hx159_0 hx159_1 hx159_2 hx159_3 hx159_4 hx159_5 hx159_6 hx161_0 hx161_1 hx161_2 hx161_3 hx161_4 hx161_5 hx161_6 hHeld ⊢
         refine pure_ (i:=0) (N:=some 13) (v:=?_) (a':=?_) #[T,F,F,F,F,F,F,F,F,F,F,F,F,F,F,F,F,F,F,F,F,F,F,F,F,F,F,F,F,F,F,F,F,F,F,F,F,F,F,F,F,F,F] rfl rfl (any_of HT_.out (by kernel_rfl)) (fun _ _ _ h => h) (Or.inl ⟨by rfl,?_⟩) ?_ ?_
         rotate_left
         ·intro w'
          go_simp
          with_reducible rfl
         rotate_left
         ·simp only [Act.put,setIfInBounds_toArray,set_cons_zero,set_cons_succ,i64_w,i32_w]
          rfl
         refine pure_ (i:=1) (N:=some 14) (v:=?_) (a':=?_) #[T,T,F,F,F,F,F,F,F,F,F,F,F,F,F,F,F,F,F,F,F,F,F,F,F,F,F,F,F,F,F,F,F,F,F,F,F,F,F,F,F,F,F] rfl rfl (any_of HT_.out (by kernel_rfl)) (fun _ _ _ h => h) (Or.inl ⟨by rfl,?_⟩) ?_ ?_
         rotate_left
         ·intro w'
          go_simp
          with_reducible rfl
         rotate_left
         ·simp only [Act.put,setIfInBounds_toArray,set_cons_zero,set_cons_succ,i64_w,i32_w]
          rfl
         refine pure_ (i:=2) (N:=some 15) (v:=?_) (a':=?_) #[T,T,T,F,F,F,F,F,F,F,F,F,F,F,F,F,F,F,F,F,F,F,F,F,F,F,F,F,F,F,F,F,F,F,F,F,F,F,F,F,F,F,F] rfl rfl (any_of HT_.out (by kernel_rfl)) (fun _ _ _ h => h) (Or.inl ⟨by rfl,?_⟩) ?_ ?_
         rotate_left
         ·intro w'
          go_simp
          with_reducible rfl
         rotate_left
         ·simp only [Act.put,setIfInBounds_toArray,set_cons_zero,set_cons_succ,i64_w,i32_w]
          rfl
         refine pure_ (i:=3) (N:=some 16) (v:=?_) (a':=?_) #[T,T,T,T,F,F,F,F,F,F,F,F,F,F,F,F,F,F,F,F,F,F,F,F,F,F,F,F,F,F,F,F,F,F,F,F,F,F,F,F,F,F,F] rfl rfl (any_of HT_.out (by kernel_rfl)) (fun _ _ _ h => h) (Or.inl ⟨by rfl,?_⟩) ?_ ?_
         rotate_left
         ·intro w'
          go_simp
          with_reducible rfl
         rotate_left
         ·simp only [Act.put,setIfInBounds_toArray,set_cons_zero,set_cons_succ,i64_w,i32_w]
          rfl
         refine take_ (i:=4) (N:=some 17) (v:=?_) (a':=?_) #[T,T,T,T,T,F,F,F,F,F,F,F,F,F,F,F,F,F,F,F,F,F,F,F,F,F,F,F,F,F,F,F,F,F,F,F,F,F,F,F,F,F,F] rfl rfl (take_ofW HT_.out HW_.out (by kernel_rfl)) (fun _ _ _ h => h) (Or.inl ⟨by rfl,?_⟩) hHeld ?_ ?_
         rotate_left
         ·rintro w' ⟨s0,s1,s2,s3,s4,s5,s6,s7,s8,s9,s10,s11,s12,s13,s14,s15,s16,s17,s18,s19,s20⟩
          go_simp
          with_reducible rfl
         rotate_left
         ·simp only [Act.put,setIfInBounds_toArray,set_cons_zero,set_cons_succ,i64_w,i32_w]
          rfl
         refine one_ (i:=5) (N:=some 18) #[T,T,T,T,T,T,F,F,F,F,F,F,F,F,F,F,F,F,F,F,F,F,F,F,F,F,F,F,F,F,F,F,F,F,F,F,F,F,F,F,F,F,F] rfl rfl (one_of HT_.out (by kernel_rfl)) (by decide) (fun K hK => ?_)
         refine goes_ Tryd.func46 (by kernel_rfl) rfl #[.int .i64 ((rd_T88 l0 x3_1).f0),.int .i64 0,.int .i64 99999] (by rfl) rfl rfl (by (try simp only [List.map_toArray,List.map_cons,List.map_nil]); first | done | rfl | (simp only [List.length_drop,List.length_take]; rfl)) ?_
         with_reducible refine (spec_l01In.calls ((rd_T88 l0 x3_1).f0) 0 99999 true _ A5.out).mono ?_
         rintro e w' ⟨rfl,⟨nd,rfl⟩⟩
         refine ⟨_,rfl,?_⟩
         refine hK.out _ _ ⟨((HB.out.cell (bl_ w _ hw157_0)).trans hw157_0),((HB.out.cell (bl_ w _ hw157_1)).trans hw157_1),((HB.out.cell (bl_ w _ hw157_2)).trans hw157_2),((HB.out.cell (bl_ w _ hw157_3)).trans hw157_3),((HB.out.cell (bl_ w _ hw157_4)).trans hw157_4),((HB.out.cell (bl_ w _ hw157_5)).trans hw157_5),((HB.out.cell (bl_ w _ hw157_6)).trans hw157_6),((HB.out.cell (bl_ w _ hw159_0)).trans hw159_0),((HB.out.cell (bl_ w _ hw159_1)).trans hw159_1),((HB.out.cell (bl_ w _ hw159_2)).trans hw159_2),((HB.out.cell (bl_ w _ hw159_3)).trans hw159_3),((HB.out.cell (bl_ w _ hw159_4)).trans hw159_4),((HB.out.cell (bl_ w _ hw159_5)).trans hw159_5),((HB.out.cell (bl_ w _ hw159_6)).trans hw159_6),((HB.out.cell (bl_ w _ hw161_0)).trans hw161_0),((HB.out.cell (bl_ w _ hw161_1)).trans hw161_1),((HB.out.cell (bl_ w _ hw161_2)).trans hw161_2),((HB.out.cell (bl_ w _ hw161_3)).trans hw161_3),((HB.out.cell (bl_ w _ hw161_4)).trans hw161_4),((HB.out.cell (bl_ w _ hw161_5)).trans hw161_5),((HB.out.cell (bl_ w _ hw161_6)).trans hw161_6)⟩ (fun hHeld => ?_)
         clear hK K
         refine norm_ (a':=?_) ?_ ?_
         rotate_left
         ·show Act.put _ (some 18) _ = _
          simp only [Act.put,setIfInBounds_toArray,set_cons_zero,set_cons_succ,i64_w,i32_w]
          rfl
         refine pure_ (i:=6) (N:=some 19) (v:=?_) (a':=?_) #[T,T,T,T,T,T,T,F,F,F,F,F,F,F,F,F,F,F,F,F,F,F,F,F,F,F,F,F,F,F,F,F,F,F,F,F,F,F,F,F,F,F,F] rfl rfl (any_of HT_.out (by kernel_rfl)) (fun _ _ _ h => h) (Or.inl ⟨by rfl,?_⟩) ?_ ?_
         rotate_left
         ·intro w'
          go_simp
          with_reducible rfl
         rotate_left
         ·simp only [Act.put,setIfInBounds_toArray,set_cons_zero,set_cons_succ,i64_w,i32_w]
          rfl
         refine pure_ (i:=7) (N:=some 20) (v:=?_) (a':=?_) #[T,T,T,T,T,T,T,T,F,F,F,F,F,F,F,F,F,F,F,F,F,F,F,F,F,F,F,F,F,F,F,F,F,F,F,F,F,F,F,F,F,F,F] rfl rfl (any_of HT_.out (by kernel_rfl)) (fun _ _ _ h => h) (Or.inl ⟨by rfl,?_⟩) ?_ ?_
         rotate_left
         ·intro w'
          go_simp
          with_reducible rfl
         rotate_left
         ·simp only [Act.put,setIfInBounds_toArray,set_cons_zero,set_cons_succ,i64_w,i32_w]
          rfl
         refine pure_ (i:=8) (N:=some 21) (v:=?_) (a':=?_) #[T,T,T,T,T,T,T,T,T,F,F,F,F,F,F,F,F,F,F,F,F,F,F,F,F,F,F,F,F,F,F,F,F,F,F,F,F,F,F,F,F,F,F] rfl rfl (any_of HT_.out (by kernel_rfl)) (fun _ _ _ h => h) (Or.inl ⟨by rfl,?_⟩) ?_ ?_
         rotate_left
         ·intro w'
          go_simp
          with_reducible rfl
         rotate_left
         ·simp only [Act.put,setIfInBounds_toArray,set_cons_zero,set_cons_succ,i64_w,i32_w]
          rfl
         refine pure_ (i:=9) (N:=some 22) (v:=?_) (a':=?_) #[T,T,T,T,T,T,T,T,T,T,F,F,F,F,F,F,F,F,F,F,F,F,F,F,F,F,F,F,F,F,F,F,F,F,F,F,F,F,F,F,F,F,F] rfl rfl (any_of HT_.out (by kernel_rfl)) (fun _ _ _ h => h) (Or.inl ⟨by rfl,?_⟩) ?_ ?_
         rotate_left
         ·intro w'
          go_simp
          with_reducible rfl
         rotate_left
         ·simp only [Act.put,setIfInBounds_toArray,set_cons_zero,set_cons_succ,i64_w,i32_w]
          rfl
         refine pure_ (i:=10) (N:=some 23) (v:=?_) (a':=?_) #[T,T,T,T,T,T,T,T,T,T,T,F,F,F,F,F,F,F,F,F,F,F,F,F,F,F,F,F,F,F,F,F,F,F,F,F,F,F,F,F,F,F,F] rfl rfl (any_of HT_.out (by kernel_rfl)) (fun _ _ _ h => h) (Or.inl ⟨by rfl,?_⟩) ?_ ?_
         rotate_left
         ·intro w'
          go_simp
          with_reducible rfl
         rotate_left
         ·simp only [Act.put,setIfInBounds_toArray,set_cons_zero,set_cons_succ,i64_w,i32_w]
          rfl
         refine pure_ (i:=11) (N:=some 24) (v:=?_) (a':=?_) #[T,T,T,T,T,T,T,T,T,T,T,T,F,F,F,F,F,F,F,F,F,F,F,F,F,F,F,F,F,F,F,F,F,F,F,F,F,F,F,F,F,F,F] rfl rfl (any_of HT_.out (by kernel_rfl)) (fun _ _ _ h => h) (Or.inl ⟨by rfl,?_⟩) ?_ ?_
         rotate_left
         ·intro w'
          go_simp
          with_reducible rfl
         rotate_left
         ·simp only [Act.put,setIfInBounds_toArray,set_cons_zero,set_cons_succ,i64_w,i32_w]
          rfl
         refine take_ (i:=12) (N:=some 25) (v:=?_) (a':=?_) #[T,T,T,T,T,T,T,T,T,T,T,T,T,F,F,F,F,F,F,F,F,F,F,F,F,F,F,F,F,F,F,F,F,F,F,F,F,F,F,F,F,F,F] rfl rfl (take_ofW HT_.out HW_.out (by kernel_rfl)) (fun _ _ _ h => h) (Or.inl ⟨by rfl,?_⟩) hHeld ?_ ?_
         rotate_left
         ·rintro w' ⟨s0,s1,s2,s3,s4,s5,s6,s7,s8,s9,s10,s11,s12,s13,s14,s15,s16,s17,s18,s19,s20⟩
          go_simp
          with_reducible rfl
         rotate_left
         ·simp only [Act.put,setIfInBounds_toArray,set_cons_zero,set_cons_succ,i64_w,i32_w]
          rfl
         refine one_ (i:=13) (N:=some 26) #[T,T,T,T,T,T,T,T,T,T,T,T,T,T,F,F,F,F,F,F,F,F,F,F,F,F,F,F,F,F,F,F,F,F,F,F,F,F,F,F,F,F,F] rfl rfl (one_of HT_.out (by kernel_rfl)) (by decide) (fun K hK => ?_)
         refine goes_ Tryd.func101 (by kernel_rfl) rfl #[.agg #[.int .i64 ((rd_T88 l0 x3_1).f1.f0),.int .i64 ((rd_T88 l0 x3_1).f1.f1),.int .i64 ((rd_T88 l0 x3_1).f1.f2),.int .i64 ((rd_T88 l0 x3_1).f1.f3),.int .i64 ((rd_T88 l0 x3_1).f1.f4),.int .i64 ((rd_T88 l0 x3_1).f1.f5)]] (by rfl) rfl rfl (by (try simp only [List.map_toArray,List.map_cons,List.map_nil]); first | done | rfl | (simp only [List.length_drop,List.length_take]; rfl)) ?_
         with_reducible refine (spec_AggOK.calls ((rd_T88 l0 x3_1).f1.f0) ((rd_T88 l0 x3_1).f1.f1) ((rd_T88 l0 x3_1).f1.f2) ((rd_T88 l0 x3_1).f1.f3) ((rd_T88 l0 x3_1).f1.f4) ((rd_T88 l0 x3_1).f1.f5) true _ A7.out).mono ?_
         rintro e w11 ⟨rfl,hb⟩
         refine ⟨_,rfl,?_⟩
         have n0_ := Aside0.mk (below_step (by repeat (first | (with_reducible first | exact HB.out | apply below_alloc | apply pw_below_drewN | apply below_drew1) | exact HB.out)) hb)
         clear HB
         have HB := n0_
         clear n0_
         (try clear hb)
         (try clear hb2)
         (try clear hk)
         (try clear hi)
         refine hK.out _ _ ⟨((HB.out.cell (bl_ w _ hw157_0)).trans hw157_0),((HB.out.cell (bl_ w _ hw157_1)).trans hw157_1),((HB.out.cell (bl_ w _ hw157_2)).trans hw157_2),((HB.out.cell (bl_ w _ hw157_3)).trans hw157_3),((HB.out.cell (bl_ w _ hw157_4)).trans hw157_4),((HB.out.cell (bl_ w _ hw157_5)).trans hw157_5),((HB.out.cell (bl_ w _ hw157_6)).trans hw157_6),((HB.out.cell (bl_ w _ hw159_0)).trans hw159_0),((HB.out.cell (bl_ w _ hw159_1)).trans hw159_1),((HB.out.cell (bl_ w _ hw159_2)).trans hw159_2),((HB.out.cell (bl_ w _ hw159_3)).trans hw159_3),((HB.out.cell (bl_ w _ hw159_4)).trans hw159_4),((HB.out.cell (bl_ w _ hw159_5)).trans hw159_5),((HB.out.cell (bl_ w _ hw159_6)).trans hw159_6),((HB.out.cell (bl_ w _ hw161_0)).trans hw161_0),((HB.out.cell (bl_ w _ hw161_1)).trans hw161_1),((HB.out.cell (bl_ w _ hw161_2)).trans hw161_2),((HB.out.cell (bl_ w _ hw161_3)).trans hw161_3),((HB.out.cell (bl_ w _ hw161_4)).trans hw161_4),((HB.out.cell (bl_ w _ hw161_5)).trans hw161_5),((HB.out.cell (bl_ w _ hw161_6)).trans hw161_6)⟩ (fun hHeld => ?_)
         clear hK K
         refine norm_ (a':=?_) ?_ ?_
         rotate_left
         ·show Act.put _ (some 26) _ = _
          simp only [Act.put,setIfInBounds_toArray,set_cons_zero,set_cons_succ,i64_w,i32_w]
          rfl
         refine pure_ (i:=14) (N:=some 27) (v:=?_) (a':=?_) #[T,T,T,T,T,T,T,T,T,T,T,T,T,T,T,F,F,F,F,F,F,F,F,F,F,F,F,F,F,F,F,F,F,F,F,F,F,F,F,F,F,F,F] rfl rfl (any_of HT_.out (by kernel_rfl)) (fun _ _ _ h => h) (Or.inl ⟨by rfl,?_⟩) ?_ ?_
         rotate_left
         ·intro w'
          go_simp
          with_reducible rfl
         rotate_left
         ·simp only [Act.put,setIfInBounds_toArray,set_cons_zero,set_cons_succ,i64_w,i32_w]
          rfl
         refine pure_ (i:=15) (N:=some 28) (v:=?_) (a':=?_) #[T,T,T,T,T,T,T,T,T,T,T,T,T,T,T,T,F,F,F,F,F,F,F,F,F,F,F,F,F,F,F,F,F,F,F,F,F,F,F,F,F,F,F] rfl rfl (any_of HT_.out (by kernel_rfl)) (fun _ _ _ h => h) (Or.inl ⟨by rfl,?_⟩) ?_ ?_
         rotate_left
         ·intro w'
          go_simp
          with_reducible rfl
         rotate_left
         ·simp only [Act.put,setIfInBounds_toArray,set_cons_zero,set_cons_succ,i64_w,i32_w]
          rfl
         refine pure_ (i:=16) (N:=some 29) (v:=?_) (a':=?_) #[T,T,T,T,T,T,T,T,T,T,T,T,T,T,T,T,T,F,F,F,F,F,F,F,F,F,F,F,F,F,F,F,F,F,F,F,F,F,F,F,F,F,F] rfl rfl (any_of HT_.out (by kernel_rfl)) (fun _ _ _ h => h) (Or.inl ⟨by rfl,?_⟩) ?_ ?_
         rotate_left
         ·intro w'
          go_simp
          with_reducible rfl
         rotate_left
         ·simp only [Act.put,setIfInBounds_toArray,set_cons_zero,set_cons_succ,i64_w,i32_w]
          rfl
         refine pure_ (i:=17) (N:=some 30) (v:=?_) (a':=?_) #[T,T,T,T,T,T,T,T,T,T,T,T,T,T,T,T,T,T,F,F,F,F,F,F,F,F,F,F,F,F,F,F,F,F,F,F,F,F,F,F,F,F,F] rfl rfl (any_of HT_.out (by kernel_rfl)) (fun _ _ _ h => h) (Or.inl ⟨by rfl,?_⟩) ?_ ?_
         rotate_left
         ·intro w'
          go_simp
          with_reducible rfl
         rotate_left
         ·simp only [Act.put,setIfInBounds_toArray,set_cons_zero,set_cons_succ,i64_w,i32_w]
          rfl
         refine pure_ (i:=18) (N:=some 31) (v:=?_) (a':=?_) #[T,T,T,T,T,T,T,T,T,T,T,T,T,T,T,T,T,T,T,F,F,F,F,F,F,F,F,F,F,F,F,F,F,F,F,F,F,F,F,F,F,F,F] rfl rfl (any_of HT_.out (by kernel_rfl)) (fun _ _ _ h => h) (Or.inl ⟨by rfl,?_⟩) ?_ ?_
         rotate_left
         ·intro w'
          go_simp
          with_reducible rfl
         rotate_left
         ·simp only [Act.put,setIfInBounds_toArray,set_cons_zero,set_cons_succ,i64_w,i32_w]
          rfl
         refine pure_ (i:=19) (N:=some 32) (v:=?_) (a':=?_) #[T,T,T,T,T,T,T,T,T,T,T,T,T,T,T,T,T,T,T,T,F,F,F,F,F,F,F,F,F,F,F,F,F,F,F,F,F,F,F,F,F,F,F] rfl rfl (any_of HT_.out (by kernel_rfl)) (fun _ _ _ h => h) (Or.inl ⟨by rfl,?_⟩) ?_ ?_
         rotate_left
         ·intro w'
          go_simp
          with_reducible rfl
         rotate_left
         ·simp only [Act.put,setIfInBounds_toArray,set_cons_zero,set_cons_succ,i64_w,i32_w]
          rfl
         refine pure_ (i:=20) (N:=some 33) (v:=?_) (a':=?_) #[T,T,T,T,T,T,T,T,T,T,T,T,T,T,T,T,T,T,T,T,T,F,F,F,F,F,F,F,F,F,F,F,F,F,F,F,F,F,F,F,F,F,F] rfl rfl (any_of HT_.out (by kernel_rfl)) (fun _ _ _ h => h) (Or.inl ⟨by rfl,?_⟩) ?_ ?_
         rotate_left
         ·intro w'
          go_simp
          with_reducible rfl
         rotate_left
         ·simp only [Act.put,setIfInBounds_toArray,set_cons_zero,set_cons_succ,i64_w,i32_w]
          rfl
         refine pure_ (i:=21) (N:=some 34) (v:=?_) (a':=?_) #[T,T,T,T,T,T,T,T,T,T,T,T,T,T,T,T,T,T,T,T,T,T,F,F,F,F,F,F,F,F,F,F,F,F,F,F,F,F,F,F,F,F,F] rfl rfl (any_of HT_.out (by kernel_rfl)) (fun _ _ _ h => h) (Or.inl ⟨by rfl,?_⟩) ?_ ?_
         rotate_left
         ·intro w'
          go_simp
          with_reducible rfl
         rotate_left
         ·simp only [Act.put,setIfInBounds_toArray,set_cons_zero,set_cons_succ,i64_w,i32_w]
          rfl
         refine take_ (i:=22) (N:=some 35) (v:=?_) (a':=?_) #[T,T,T,T,T,T,T,T,T,T,T,T,T,T,T,T,T,T,T,T,T,T,T,F,F,F,F,F,F,F,F,F,F,F,F,F,F,F,F,F,F,F,F] rfl rfl (take_ofW HT_.out HW_.out (by kernel_rfl)) (fun _ _ _ h => h) (Or.inl ⟨by rfl,?_⟩) hHeld ?_ ?_
         rotate_left
         ·rintro w' ⟨s0,s1,s2,s3,s4,s5,s6,s7,s8,s9,s10,s11,s12,s13,s14,s15,s16,s17,s18,s19,s20⟩
          go_simp
          with_reducible rfl
         rotate_left
         ·simp only [Act.put,setIfInBounds_toArray,set_cons_zero,set_cons_succ,i64_w,i32_w]
          rfl
         refine pure_ (i:=23) (N:=some 36) (v:=?_) (a':=?_) #[T,T,T,T,T,T,T,T,T,T,T,T,T,T,T,T,T,T,T,T,T,T,T,T,F,F,F,F,F,F,F,F,F,F,F,F,F,F,F,F,F,F,F] rfl rfl (any_of HT_.out (by kernel_rfl)) (fun _ _ _ h => h) (Or.inl ⟨by rfl,?_⟩) ?_ ?_
         rotate_left
         ·intro w'
          go_simp
          with_reducible rfl
         rotate_left
         ·simp only [Act.put,setIfInBounds_toArray,set_cons_zero,set_cons_succ,i64_w,i32_w]
          rfl
         refine pure_ (i:=24) (N:=some 37) (v:=?_) (a':=?_) #[T,T,T,T,T,T,T,T,T,T,T,T,T,T,T,T,T,T,T,T,T,T,T,T,T,F,F,F,F,F,F,F,F,F,F,F,F,F,F,F,F,F,F] rfl rfl (any_of HT_.out (by kernel_rfl)) (fun _ _ _ h => h) (Or.inl ⟨by rfl,?_⟩) ?_ ?_
         rotate_left
         ·intro w'
          go_simp
          with_reducible rfl
         rotate_left
         ·simp only [Act.put,setIfInBounds_toArray,set_cons_zero,set_cons_succ,i64_w,i32_w]
          rfl
         refine pure_ (i:=25) (N:=some 38) (v:=?_) (a':=?_) #[T,T,T,T,T,T,T,T,T,T,T,T,T,T,T,T,T,T,T,T,T,T,T,T,T,T,F,F,F,F,F,F,F,F,F,F,F,F,F,F,F,F,F] rfl rfl (any_of HT_.out (by kernel_rfl)) (fun _ _ _ h => h) (Or.inl ⟨by rfl,?_⟩) ?_ ?_
         rotate_left
         ·intro w'
          go_simp
          with_reducible rfl
         rotate_left
         ·simp only [Act.put,setIfInBounds_toArray,set_cons_zero,set_cons_succ,i64_w,i32_w]
          rfl
         refine pure_ (i:=26) (N:=some 39) (v:=undef) (a':=?_) #[T,T,T,T,T,T,T,T,T,T,T,T,T,T,T,T,T,T,T,T,T,T,T,T,T,T,T,F,F,F,F,F,F,F,F,F,F,F,F,F,F,F,F] rfl rfl (any_of HT_.out (by kernel_rfl)) (fun _ _ _ h => h) (Or.inr ⟨by rfl,rfl⟩) ?_ ?_
         rotate_left
         ·simp only [Act.put,setIfInBounds_toArray,set_cons_zero,set_cons_succ,i64_w,i32_w]
          rfl
         refine pure_ (i:=27) (N:=some 40) (v:=undef) (a':=?_) #[T,T,T,T,T,T,T,T,T,T,T,T,T,T,T,T,T,T,T,T,T,T,T,T,T,T,T,T,F,F,F,F,F,F,F,F,F,F,F,F,F,F,F] rfl rfl (any_of HT_.out (by kernel_rfl)) (fun _ _ _ h => h) (Or.inr ⟨by rfl,rfl⟩) ?_ ?_
         rotate_left
         ·simp only [Act.put,setIfInBounds_toArray,set_cons_zero,set_cons_succ,i64_w,i32_w]
          rfl
         refine pure_ (i:=28) (N:=some 41) (v:=undef) (a':=?_) #[T,T,T,T,T,T,T,T,T,T,T,T,T,T,T,T,T,T,T,T,T,T,T,T,T,T,T,T,T,F,F,F,F,F,F,F,F,F,F,F,F,F,F] rfl rfl (any_of HT_.out (by kernel_rfl)) (fun _ _ _ h => h) (Or.inr ⟨by rfl,rfl⟩) ?_ ?_
         rotate_left
         ·simp only [Act.put,setIfInBounds_toArray,set_cons_zero,set_cons_succ,i64_w,i32_w]
          rfl
         refine pure_ (i:=29) (N:=some 42) (v:=undef) (a':=?_) #[T,T,T,T,T,T,T,T,T,T,T,T,T,T,T,T,T,T,T,T,T,T,T,T,T,T,T,T,T,T,F,F,F,F,F,F,F,F,F,F,F,F,F] rfl rfl (any_of HT_.out (by kernel_rfl)) (fun _ _ _ h => h) (Or.inr ⟨by rfl,rfl⟩) ?_ ?_
         rotate_left
         ·simp only [Act.put,setIfInBounds_toArray,set_cons_zero,set_cons_succ,i64_w,i32_w]
          rfl
         refine pure_ (i:=30) (N:=some 43) (v:=undef) (a':=?_) #[T,T,T,T,T,T,T,T,T,T,T,T,T,T,T,T,T,T,T,T,T,T,T,T,T,T,T,T,T,T,T,F,F,F,F,F,F,F,F,F,F,F,F] rfl rfl (any_of HT_.out (by kernel_rfl)) (fun _ _ _ h => h) (Or.inr ⟨by rfl,rfl⟩) ?_ ?_
         rotate_left
         ·simp only [Act.put,setIfInBounds_toArray,set_cons_zero,set_cons_succ,i64_w,i32_w]
          rfl
         refine pure_ (i:=31) (N:=some 44) (v:=undef) (a':=?_) #[T,T,T,T,T,T,T,T,T,T,T,T,T,T,T,T,T,T,T,T,T,T,T,T,T,T,T,T,T,T,T,T,F,F,F,F,F,F,F,F,F,F,F] rfl rfl (any_of HT_.out (by kernel_rfl)) (fun _ _ _ h => h) (Or.inr ⟨by rfl,rfl⟩) ?_ ?_
         rotate_left
         ·simp only [Act.put,setIfInBounds_toArray,set_cons_zero,set_cons_succ,i64_w,i32_w]
          rfl
         refine pure_ (i:=32) (N:=some 45) (v:=undef) (a':=?_) #[T,T,T,T,T,T,T,T,T,T,T,T,T,T,T,T,T,T,T,T,T,T,T,T,T,T,T,T,T,T,T,T,T,F,F,F,F,F,F,F,F,F,F] rfl rfl (any_of HT_.out (by kernel_rfl)) (fun _ _ _ h => h) (Or.inr ⟨by rfl,rfl⟩) ?_ ?_
         rotate_left
         ·simp only [Act.put,setIfInBounds_toArray,set_cons_zero,set_cons_succ,i64_w,i32_w]
          rfl
         refine pure_ (i:=33) (N:=some 46) (v:=undef) (a':=?_) #[T,T,T,T,T,T,T,T,T,T,T,T,T,T,T,T,T,T,T,T,T,T,T,T,T,T,T,T,T,T,T,T,T,T,F,F,F,F,F,F,F,F,F] rfl rfl (any_of HT_.out (by kernel_rfl)) (fun _ _ _ h => h) (Or.inr ⟨by rfl,rfl⟩) ?_ ?_
         rotate_left
         ·simp only [Act.put,setIfInBounds_toArray,set_cons_zero,set_cons_succ,i64_w,i32_w]
          rfl
         refine pure_ (i:=34) (N:=some 47) (v:=undef) (a':=?_) #[T,T,T,T,T,T,T,T,T,T,T,T,T,T,T,T,T,T,T,T,T,T,T,T,T,T,T,T,T,T,T,T,T,T,T,F,F,F,F,F,F,F,F] rfl rfl (any_of HT_.out (by kernel_rfl)) (fun _ _ _ h => h) (Or.inr ⟨by rfl,rfl⟩) ?_ ?_
         rotate_left
         ·simp only [Act.put,setIfInBounds_toArray,set_cons_zero,set_cons_succ,i64_w,i32_w]
          rfl
         refine pure_ (i:=35) (N:=some 48) (v:=undef) (a':=?_) #[T,T,T,T,T,T,T,T,T,T,T,T,T,T,T,T,T,T,T,T,T,T,T,T,T,T,T,T,T,T,T,T,T,T,T,T,F,F,F,F,F,F,F] rfl rfl (any_of HT_.out (by kernel_rfl)) (fun _ _ _ h => h) (Or.inr ⟨by rfl,rfl⟩) ?_ ?_
         rotate_left
         ·simp only [Act.put,setIfInBounds_toArray,set_cons_zero,set_cons_succ,i64_w,i32_w]
          rfl
         refine pure_ (i:=36) (N:=some 49) (v:=undef) (a':=?_) #[T,T,T,T,T,T,T,T,T,T,T,T,T,T,T,T,T,T,T,T,T,T,T,T,T,T,T,T,T,T,T,T,T,T,T,T,T,F,F,F,F,F,F] rfl rfl (any_of HT_.out (by kernel_rfl)) (fun _ _ _ h => h) (Or.inr ⟨by rfl,rfl⟩) ?_ ?_
         rotate_left
         ·simp only [Act.put,setIfInBounds_toArray,set_cons_zero,set_cons_succ,i64_w,i32_w]
          rfl
         refine pure_ (i:=37) (N:=some 50) (v:=undef) (a':=?_) #[T,T,T,T,T,T,T,T,T,T,T,T,T,T,T,T,T,T,T,T,T,T,T,T,T,T,T,T,T,T,T,T,T,T,T,T,T,T,F,F,F,F,F] rfl rfl (any_of HT_.out (by kernel_rfl)) (fun _ _ _ h => h) (Or.inr ⟨by rfl,rfl⟩) ?_ ?_
         rotate_left
         ·simp only [Act.put,setIfInBounds_toArray,set_cons_zero,set_cons_succ,i64_w,i32_w]
          rfl
         refine pure_ (i:=38) (N:=some 51) (v:=undef) (a':=?_) #[T,T,T,T,T,T,T,T,T,T,T,T,T,T,T,T,T,T,T,T,T,T,T,T,T,T,T,T,T,T,T,T,T,T,T,T,T,T,T,F,F,F,F] rfl rfl (any_of HT_.out (by kernel_rfl)) (fun _ _ _ h => h) (Or.inr ⟨by rfl,rfl⟩) ?_ ?_
         rotate_left
         ·simp only [Act.put,setIfInBounds_toArray,set_cons_zero,set_cons_succ,i64_w,i32_w]
          rfl
         refine pure_ (i:=39) (N:=some 52) (v:=undef) (a':=?_) #[T,T,T,T,T,T,T,T,T,T,T,T,T,T,T,T,T,T,T,T,T,T,T,T,T,T,T,T,T,T,T,T,T,T,T,T,T,T,T,T,F,F,F] rfl rfl (any_of HT_.out (by kernel_rfl)) (fun _ _ _ h => h) (Or.inr ⟨by rfl,rfl⟩) ?_ ?_
         rotate_left
         ·simp only [Act.put,setIfInBounds_toArray,set_cons_zero,set_cons_succ,i64_w,i32_w]
          rfl
         refine pure_ (i:=40) (N:=some 53) (v:=undef) (a':=?_) #[T,T,T,T,T,T,T,T,T,T,T,T,T,T,T,T,T,T,T,T,T,T,T,T,T,T,T,T,T,T,T,T,T,T,T,T,T,T,T,T,T,F,F] rfl rfl (any_of HT_.out (by kernel_rfl)) (fun _ _ _ h => h) (Or.inr ⟨by rfl,rfl⟩) ?_ ?_
         rotate_left
         ·simp only [Act.put,setIfInBounds_toArray,set_cons_zero,set_cons_succ,i64_w,i32_w]
          rfl
         refine pure_ (i:=41) (N:=some 54) (v:=undef) (a':=?_) #[T,T,T,T,T,T,T,T,T,T,T,T,T,T,T,T,T,T,T,T,T,T,T,T,T,T,T,T,T,T,T,T,T,T,T,T,T,T,T,T,T,T,F] rfl rfl (any_of HT_.out (by kernel_rfl)) (fun _ _ _ h => h) (Or.inr ⟨by rfl,rfl⟩) ?_ ?_
         rotate_left
         ·simp only [Act.put,setIfInBounds_toArray,set_cons_zero,set_cons_succ,i64_w,i32_w]
          rfl
         refine pure_ (i:=42) (N:=some 55) (v:=?_) (a':=?_) #[T,T,T,T,T,T,T,T,T,T,T,T,T,T,T,T,T,T,T,T,T,T,T,T,T,T,T,T,T,T,T,T,T,T,T,T,T,T,T,T,T,T,T] rfl rfl (any_of HT_.out (by kernel_rfl)) (fun _ _ _ h => h) (Or.inl ⟨by rfl,?_⟩) ?_ ?_
         rotate_left
         ·intro w'
          go_simp
          with_reducible rfl
         rotate_left
         ·simp only [Act.put,setIfInBounds_toArray,set_cons_zero,set_cons_succ,i64_w,i32_w]
          rfl
         refine done_ (done_of HT_.out (by kernel_rfl)) ?_
         try go_wp2
         go_ret
         exact ⟨by first | rfl | (simp only [i64_w,i32_w] <;> rfl) | (simp [errW_none,errW_some] <;> rfl) | (simp [*,errW_none,errW_some] <;> rfl),by repeat (first | (with_reducible first | exact HB.out | apply below_alloc | apply pw_below_drewN | apply below_drew1) | exact HB.out)⟩
        ·rw [if_neg c9] at H
         have c9b0 : (((rd_T88 l0 x3_1).f1.f0) == 0) = false := beq_eq_false_iff_ne.mpr c9
         have c9b1 : (((rd_T88 l0 x3_1).f1.f0) != 0) = true := bne_iff_ne.mpr c9
         by_cases c12 : x3_1 > 0
         ·rw [if_pos c12] at H
          have c12b0 : decide (0 < x3_1) = true := decide_eq_true c12
          clear c12
          obtain ⟨ji13,hji13⟩ : ∃ j_ : Int,(wrap64 (x3_1 - 1)) = j_ := ⟨_,rfl⟩
          replace H : (if 0 ≤ (ji13) then (if (ji13) < (l0.length : Int) then (if ((rd_T88 l0 (ji13)).f0) ≥ ((rd_T88 l0 x3_1).f0) then (some false) else (spec_BucketsOK.l0 k1 l0 (wrap64 (x3_1 + 1)))) else (none)) else (none)) = some r := by first | (rw [hji13] at H; exact H) | (simp only [hji13] at H ⊢; exact H)
          (try rw [hji13] at A5)
          (try rw [hji13] at A7)
          have hji13w : (IntKind.i64.wrap (x3_1 - 1)) = ji13 := (i64_w _).trans hji13
          by_cases c14 : 0 ≤ (ji13)
          ·rw [if_pos c14] at H
           have c14b0 : decide (0 ≤ (ji13)) = true := decide_eq_true c14
           clear c14
           by_cases c15 : (ji13) < (l0.length : Int)
           ·rw [if_pos c15] at H
            have c15b0 : decide ((ji13) < (l0.length : Int)) = true := decide_eq_true c15
            clear c15
            by_cases c16 : ((rd_T88 l0 (ji13)).f0) ≥ ((rd_T88 l0 x3_1).f0)
            ·rw [if_pos c16] at H
             have c16b0 : decide (((rd_T88 l0 x3_1).f0) ≤ ((rd_T88 l0 (ji13)).f0)) = true := decide_eq_true c16
             clear c16
             obtain rfl := Option.some.inj H
             try go_wp2
             have n0_ := Aside0.mk (below_drew1 HB.out)
             clear HB
             have HB := n0_
             clear n0_
             have p157 : 0 ≤ (x3_1 : Int) := of_decide_eq_true (by first | (with_reducible assumption) | assumption)
             have q157 : x3_1 < (l0.length : Int) := of_decide_eq_true (by first | (with_reducible assumption) | assumption)
             obtain ⟨ad157,e157,hx157_0,hx157_1,hx157_2,hx157_3,hx157_4,hx157_5,hx157_6⟩ := at_T88 HR0.out x3_1 p157 q157
             have hw157_6 := hx157_6
             have hw157_5 := hx157_5
             have hw157_4 := hx157_4
             have hw157_3 := hx157_3
             have hw157_2 := hx157_2
             have hw157_1 := hx157_1
             have hw157_0 := hx157_0
             cases e157
             replace hx157_0 := (HB.out.cell (bl_ w _ hx157_0)).trans hx157_0
             replace hx157_1 := (HB.out.cell (bl_ w _ hx157_1)).trans hx157_1
             replace hx157_2 := (HB.out.cell (bl_ w _ hx157_2)).trans hx157_2
             replace hx157_3 := (HB.out.cell (bl_ w _ hx157_3)).trans hx157_3
             replace hx157_4 := (HB.out.cell (bl_ w _ hx157_4)).trans hx157_4
             replace hx157_5 := (HB.out.cell (bl_ w _ hx157_5)).trans hx157_5
             replace hx157_6 := (HB.out.cell (bl_ w _ hx157_6)).trans hx157_6
             replace p157 := eq_true p157
             replace q157 := eq_true q157
             have p159 : 0 ≤ (x3_1 : Int) := of_decide_eq_true (by first | (with_reducible assumption) | assumption)
             have q159 : x3_1 < (l0.length : Int) := of_decide_eq_true (by first | (with_reducible assumption) | assumption)
             obtain ⟨ad159,e159,hx159_0,hx159_1,hx159_2,hx159_3,hx159_4,hx159_5,hx159_6⟩ := at_T88 HR0.out x3_1 p159 q159
             have hw159_6 := hx159_6
             have hw159_5 := hx159_5
             have hw159_4 := hx159_4
             have hw159_3 := hx159_3
             have hw159_2 := hx159_2
             have hw159_1 := hx159_1
             have hw159_0 := hx159_0
             obtain rfl : ad157 = ad159 := (by injection e159)
             replace hx159_0 := (HB.out.cell (bl_ w _ hx159_0)).trans hx159_0
             replace hx159_1 := (HB.out.cell (bl_ w _ hx159_1)).trans hx159_1
             replace hx159_2 := (HB.out.cell (bl_ w _ hx159_2)).trans hx159_2
             replace hx159_3 := (HB.out.cell (bl_ w _ hx159_3)).trans hx159_3
             replace hx159_4 := (HB.out.cell (bl_ w _ hx159_4)).trans hx159_4
             replace hx159_5 := (HB.out.cell (bl_ w _ hx159_5)).trans hx159_5
             replace hx159_6 := (HB.out.cell (bl_ w _ hx159_6)).trans hx159_6
             replace p159 := eq_true p159
             replace q159 := eq_true q159
             have p161 : 0 ≤ (x3_1 : Int) := of_decide_eq_true (by first | (with_reducible assumption) | assumption)
             have q161 : x3_1 < (l0.length : Int) := of_decide_eq_true (by first | (with_reducible assumption) | assumption)
             obtain ⟨ad161,e161,hx161_0,hx161_1,hx161_2,hx161_3,hx161_4,hx161_5,hx161_6⟩ := at_T88 HR0.out x3_1 p161 q161
             have hw161_6 := hx161_6
             have hw161_5 := hx161_5
             have hw161_4 := hx161_4
             have hw161_3 := hx161_3
             have hw161_2 := hx161_2
             have hw161_1 := hx161_1
             have hw161_0 := hx161_0
             obtain rfl : ad157 = ad161 := (by injection e161)
             replace hx161_0 := (HB.out.cell (bl_ w _ hx161_0)).trans hx161_0
             replace hx161_1 := (HB.out.cell (bl_ w _ hx161_1)).trans hx161_1
             replace hx161_2 := (HB.out.cell (bl_ w _ hx161_2)).trans hx161_2
             replace hx161_3 := (HB.out.cell (bl_ w _ hx161_3)).trans hx161_3
             replace hx161_4 := (HB.out.cell (bl_ w _ hx161_4)).trans hx161_4
             replace hx161_5 := (HB.out.cell (bl_ w _ hx161_5)).trans hx161_5
             replace hx161_6 := (HB.out.cell (bl_ w _ hx161_6)).trans hx161_6
             replace p161 := eq_true p161
             replace q161 := eq_true q161
             have p162 : 0 ≤ ((ji13) : Int) := of_decide_eq_true (by first | (with_reducible assumption) | assumption)
             have q162 : (ji13) < (l0.length : Int) := of_decide_eq_true (by first | (with_reducible assumption) | assumption)
             obtain ⟨ad162,e162,hx162_0,hx162_1,hx162_2,hx162_3,hx162_4,hx162_5,hx162_6⟩ := at_T88 HR0.out (ji13) p162 q162
             have hw162_6 := hx162_6
             have hw162_5 := hx162_5
             have hw162_4 := hx162_4
             have hw162_3 := hx162_3
             have hw162_2 := hx162_2
             have hw162_1 := hx162_1
             have hw162_0 := hx162_0
             obtain rfl : ad157 = ad162 := (by injection e162)
             replace hx162_0 := (HB.out.cell (bl_ w _ hx162_0)).trans hx162_0
             replace hx162_1 := (HB.out.cell (bl_ w _ hx162_1)).trans hx162_1
             replace hx162_2 := (HB.out.cell (bl_ w _ hx162_2)).trans hx162_2
             replace hx162_3 := (HB.out.cell (bl_ w _ hx162_3)).trans hx162_3
             replace hx162_4 := (HB.out.cell (bl_ w _ hx162_4)).trans hx162_4
             replace hx162_5 := (HB.out.cell (bl_ w _ hx162_5)).trans hx162_5
             replace hx162_6 := (HB.out.cell (bl_ w _ hx162_6)).trans hx162_6
             replace p162 := eq_true p162
             replace q162 := eq_true q162
             have p163 : 0 ≤ (x3_1 : Int) := of_decide_eq_true (by first | (with_reducible assumption) | assumption)
             have q163 : x3_1 < (l0.length : Int) := of_decide_eq_true (by first | (with_reducible assumption) | assumption)
             obtain ⟨ad163,e163,hx163_0,hx163_1,hx163_2,hx163_3,hx163_4,hx163_5,hx163_6⟩ := at_T88 HR0.out x3_1 p163 q163
             have hw163_6 := hx163_6
             have hw163_5 := hx163_5
             have hw163_4 := hx163_4
             have hw163_3 := hx163_3
             have hw163_2 := hx163_2
             have hw163_1 := hx163_1
             have hw163_0 := hx163_0
             obtain rfl : ad157 = ad163 := (by injection e163)
             replace hx163_0 := (HB.out.cell (bl_ w _ hx163_0)).trans hx163_0
             replace hx163_1 := (HB.out.cell (bl_ w _ hx163_1)).trans hx163_1
             replace hx163_2 := (HB.out.cell (bl_ w _ hx163_2)).trans hx163_2
             replace hx163_3 := (HB.out.cell (bl_ w _ hx163_3)).trans hx163_3
             replace hx163_4 := (HB.out.cell (bl_ w _ hx163_4)).trans hx163_4
             replace hx163_5 := (HB.out.cell (bl_ w _ hx163_5)).trans hx163_5
             replace hx163_6 := (HB.out.cell (bl_ w _ hx163_6)).trans hx163_6
             replace p163 := eq_true p163
             replace q163 := eq_true q163
             refine start_ (n:=43) (S:=fun w' => w'.cell? (ad157.add ((x3_1).toNat * 7)) = some (.int .i64 ((rd_T88 l0 x3_1).f0)) ∧ w'.cell? ⟨(ad157.add ((x3_1).toNat * 7)).block,(ad157.add ((x3_1).toNat * 7)).off + 1,none⟩ = some (.int .i64 ((rd_T88 l0 x3_1).f1.f0)) ∧ w'.cell? ⟨(ad157.add ((x3_1).toNat * 7)).block,(ad157.add ((x3_1).toNat * 7)).off + 2,none⟩ = some (.int .i64 ((rd_T88 l0 x3_1).f1.f1)) ∧ w'.cell? ⟨(ad157.add ((x3_1).toNat * 7)).block,(ad157.add ((x3_1).toNat * 7)).off + 3,none⟩ = some (.int .i64 ((rd_T88 l0 x3_1).f1.f2)) ∧ w'.cell? ⟨(ad157.add ((x3_1).toNat * 7)).block,(ad157.add ((x3_1).toNat * 7)).off + 4,none⟩ = some (.int .i64 ((rd_T88 l0 x3_1).f1.f3)) ∧ w'.cell? ⟨(ad157.add ((x3_1).toNat * 7)).block,(ad157.add ((x3_1).toNat * 7)).off + 5,none⟩ = some (.int .i64 ((rd_T88 l0 x3_1).f1.f4)) ∧ w'.cell? ⟨(ad157.add ((x3_1).toNat * 7)).block,(ad157.add ((x3_1).toNat * 7)).off + 6,none⟩ = some (.int .i64 ((rd_T88 l0 x3_1).f1.f5)) ∧ w'.cell? (ad157.add ((x3_1).toNat * 7)) = some (.int .i64 ((rd_T88 l0 x3_1).f0)) ∧ w'.cell? ⟨(ad157.add ((x3_1).toNat * 7)).block,(ad157.add ((x3_1).toNat * 7)).off + 1,none⟩ = some (.int .i64 ((rd_T88 l0 x3_1).f1.f0)) ∧ w'.cell? ⟨(ad157.add ((x3_1).toNat * 7)).block,(ad157.add ((x3_1).toNat * 7)).off + 2,none⟩ = some (.int .i64 ((rd_T88 l0 x3_1).f1.f1)) ∧ w'.cell? ⟨(ad157.add ((x3_1).toNat * 7)).block,(ad157.add ((x3_1).toNat * 7)).off + 3,none⟩ = some (.int .i64 ((rd_T88 l0 x3_1).f1.f2)) ∧ w'.cell? ⟨(ad157.add ((x3_1).toNat * 7)).block,(ad157.add ((x3_1).toNat * 7)).off + 4,none⟩ = some (.int .i64 ((rd_T88 l0 x3_1).f1.f3)) ∧ w'.cell? ⟨(ad157.add ((x3_1).toNat * 7)).block,(ad157.add ((x3_1).toNat * 7)).off + 5,none⟩ = some (.int .i64 ((rd_T88 l0 x3_1).f1.f4)) ∧ w'.cell? ⟨(ad157.add ((x3_1).toNat * 7)).block,(ad157.add ((x3_1).toNat * 7)).off + 6,none⟩ = some (.int .i64 ((rd_T88 l0 x3_1).f1.f5)) ∧ w'.cell? (ad157.add ((x3_1).toNat * 7)) = some (.int .i64 ((rd_T88 l0 x3_1).f0)) ∧ w'.cell? ⟨(ad157.add ((x3_1).toNat * 7)).block,(ad157.add ((x3_1).toNat * 7)).off + 1,none⟩ = some (.int .i64 ((rd_T88 l0 x3_1).f1.f0)) ∧ w'.cell? ⟨(ad157.add ((x3_1).toNat * 7)).block,(ad157.add ((x3_1).toNat * 7)).off + 2,none⟩ = some (.int .i64 ((rd_T88 l0 x3_1).f1.f1)) ∧ w'.cell? ⟨(ad157.add ((x3_1).toNat * 7)).block,(ad157.add ((x3_1).toNat * 7)).off + 3,none⟩ = some (.int .i64 ((rd_T88 l0 x3_1).f1.f2)) ∧ w'.cell? ⟨(ad157.add ((x3_1).toNat * 7)).block,(ad157.add ((x3_1).toNat * 7)).off + 4,none⟩ = some (.int .i64 ((rd_T88 l0 x3_1).f1.f3)) ∧ w'.cell? ⟨(ad157.add ((x3_1).toNat * 7)).block,(ad157.add ((x3_1).toNat * 7)).off + 5,none⟩ = some (.int .i64 ((rd_T88 l0 x3_1).f1.f4)) ∧ w'.cell? ⟨(ad157.add ((x3_1).toNat * 7)).block,(ad157.add ((x3_1).toNat * 7)).off + 6,none⟩ = some (.int .i64 ((rd_T88 l0 x3_1).f1.f5)) ∧ w'.cell? (ad157.add (((ji13)).toNat * 7)) = some (.int .i64 ((rd_T88 l0 (ji13)).f0)) ∧ w'.cell? ⟨(ad157.add (((ji13)).toNat * 7)).block,(ad157.add (((ji13)).toNat * 7)).off + 1,none⟩ = some (.int .i64 ((rd_T88 l0 (ji13)).f1.f0)) ∧ w'.cell? ⟨(ad157.add (((ji13)).toNat * 7)).block,(ad157.add (((ji13)).toNat * 7)).off + 2,none⟩ = some (.int .i64 ((rd_T88 l0 (ji13)).f1.f1)) ∧ w'.cell? ⟨(ad157.add (((ji13)).toNat * 7)).block,(ad157.add (((ji13)).toNat * 7)).off + 3,none⟩ = some (.int .i64 ((rd_T88 l0 (ji13)).f1.f2)) ∧ w'.cell? ⟨(ad157.add (((ji13)).toNat * 7)).block,(ad157.add (((ji13)).toNat * 7)).off + 4,none⟩ = some (.int .i64 ((rd_T88 l0 (ji13)).f1.f3)) ∧ w'.cell? ⟨(ad157.add (((ji13)).toNat * 7)).block,(ad157.add (((ji13)).toNat * 7)).off + 5,none⟩ = some (.int .i64 ((rd_T88 l0 (ji13)).f1.f4)) ∧ w'.cell? ⟨(ad157.add (((ji13)).toNat * 7)).block,(ad157.add (((ji13)).toNat * 7)).off + 6,none⟩ = some (.int .i64 ((rd_T88 l0 (ji13)).f1.f5)) ∧ w'.cell? (ad157.add ((x3_1).toNat * 7)) = some (.int .i64 ((rd_T88 l0 x3_1).f0)) ∧ w'.cell? ⟨(ad157.add ((x3_1).toNat * 7)).block,(ad157.add ((x3_1).toNat * 7)).off + 1,none⟩ = some (.int .i64 ((rd_T88 l0 x3_1).f1.f0)) ∧ w'.cell? ⟨(ad157.add ((x3_1).toNat * 7)).block,(ad157.add ((x3_1).toNat * 7)).off + 2,none⟩ = some (.int .i64 ((rd_T88 l0 x3_1).f1.f1)) ∧ w'.cell? ⟨(ad157.add ((x3_1).toNat * 7)).block,(ad157.add ((x3_1).toNat * 7)).off + 3,none⟩ = some (.int .i64 ((rd_T88 l0 x3_1).f1.f2)) ∧ w'.cell? ⟨(ad157.add ((x3_1).toNat * 7)).block,(ad157.add ((x3_1).toNat * 7)).off + 4,none⟩ = some (.int .i64 ((rd_T88 l0 x3_1).f1.f3)) ∧ w'.cell? ⟨(ad157.add ((x3_1).toNat * 7)).block,(ad157.add ((x3_1).toNat * 7)).off + 5,none⟩ = some (.int .i64 ((rd_T88 l0 x3_1).f1.f4)) ∧ w'.cell? ⟨(ad157.add ((x3_1).toNat * 7)).block,(ad157.add ((x3_1).toNat * 7)).off + 6,none⟩ = some (.int .i64 ((rd_T88 l0 x3_1).f1.f5))) (ds := []) #[F,F,F,F,F,F,F,F,F,F,F,F,F,F,F,F,F,F,F,F,F,F,F,F,F,F,F,F,F,F,F,F,F,F,F,F,F,F,F,F,F,F,F] (by kernel_rfl) rfl rfl ⟨((HB.out.cell (bl_ w _ hw157_0)).trans hw157_0),((HB.out.cell (bl_ w _ hw157_1)).trans hw157_1),((HB.out.cell (bl_ w _ hw157_2)).trans hw157_2),((HB.out.cell (bl_ w _ hw157_3)).trans hw157_3),((HB.out.cell (bl_ w _ hw157_4)).trans hw157_4),((HB.out.cell (bl_ w _ hw157_5)).trans hw157_5),((HB.out.cell (bl_ w _ hw157_6)).trans hw157_6),((HB.out.cell (bl_ w _ hw159_0)).trans hw159_0),((HB.out.cell (bl_ w _ hw159_1)).trans hw159_1),((HB.out.cell (bl_ w _ hw159_2)).trans hw159_2),((HB.out.cell (bl_ w _ hw159_3)).trans hw159_3),((HB.out.cell (bl_ w _ hw159_4)).trans hw159_4),((HB.out.cell (bl_ w _ hw159_5)).trans hw159_5),((HB.out.cell (bl_ w _ hw159_6)).trans hw159_6),((HB.out.cell (bl_ w _ hw161_0)).trans hw161_0),((HB.out.cell (bl_ w _ hw161_1)).trans hw161_1),((HB.out.cell (bl_ w _ hw161_2)).trans hw161_2),((HB.out.cell (bl_ w _ hw161_3)).trans hw161_3),((HB.out.cell (bl_ w _ hw161_4)).trans hw161_4),((HB.out.cell (bl_ w _ hw161_5)).trans hw161_5),((HB.out.cell (bl_ w _ hw161_6)).trans hw161_6),((HB.out.cell (bl_ w _ hw162_0)).trans hw162_0),((HB.out.cell (bl_ w _ hw162_1)).trans hw162_1),((HB.out.cell (bl_ w _ hw162_2)).trans hw162_2),((HB.out.cell (bl_ w _ hw162_3)).trans hw162_3),((HB.out.cell (bl_ w _ hw162_4)).trans hw162_4),((HB.out.cell (bl_ w _ hw162_5)).trans hw162_5),((HB.out.cell (bl_ w _ hw162_6)).trans hw162_6),((HB.out.cell (bl_ w _ hw163_0)).trans hw163_0),((HB.out.cell (bl_ w _ hw163_1)).trans hw163_1),((HB.out.cell (bl_ w _ hw163_2)).trans hw163_2),((HB.out.cell (bl_ w _ hw163_3)).trans hw163_3),((HB.out.cell (bl_ w _ hw163_4)).trans hw163_4),((HB.out.cell (bl_ w _ hw163_5)).trans hw163_5),((HB.out.cell (bl_ w _ hw163_6)).trans hw163_6)⟩ (fun hHeld => ?_); refine with_tabW spec_BucketsOK.tab6 spec_BucketsOK.bits6 (fun HT_ HW_ => ?_)
             generalize wr.drew = w17 at HB hx157_0 hx157_1 hx157_2 hx157_3 hx157_4 hx157_5 hx157_6 hx159_0 hx159_1 hx159_2 hx159_3 hx159_4 hx159_5 hx159_6 hx161_0 hx161_1 hx161_2 hx161_3 hx161_4 hx161_5 hx161_6 hx162_0 hx162_1 hx162_2 hx162_3 hx162_4 hx162_5 hx162_6 hx163_0 hx163_1 hx163_2 hx163_3 hx163_4 hx163_5 hx163_6 hHeld ⊢
             refine pure_ (i:=0) (N:=some 13) (v:=?_) (a':=?_) #[T,F,F,F,F,F,F,F,F,F,F,F,F,F,F,F,F,F,F,F,F,F,F,F,F,F,F,F,F,F,F,F,F,F,F,F,F,F,F,F,F,F,F] rfl rfl (any_of HT_.out (by kernel_rfl)) (fun _ _ _ h => h) (Or.inl ⟨by rfl,?_⟩) ?_ ?_
             rotate_left
             ·intro w'
              go_simp
              with_reducible rfl
             rotate_left
             ·simp only [Act.put,setIfInBounds_toArray,set_cons_zero,set_cons_succ,i64_w,i32_w]
              rfl
             refine pure_ (i:=1) (N:=some 14) (v:=?_) (a':=?_) #[T,T,F,F,F,F,F,F,F,F,F,F,F,F,F,F,F,F,F,F,F,F,F,F,F,F,F,F,F,F,F,F,F,F,F,F,F,F,F,F,F,F,F] rfl rfl (any_of HT_.out (by kernel_rfl)) (fun _ _ _ h => h) (Or.inl ⟨by rfl,?_⟩) ?_ ?_
             rotate_left
             ·intro w'
              go_simp
              with_reducible rfl
             rotate_left
             ·simp only [Act.put,setIfInBounds_toArray,set_cons_zero,set_cons_succ,i64_w,i32_w]
              rfl
             refine pure_ (i:=2) (N:=some 15) (v:=?_) (a':=?_) #[T,T,T,F,F,F,F,F,F,F,F,F,F,F,F,F,F,F,F,F,F,F,F,F,F,F,F,F,F,F,F,F,F,F,F,F,F,F,F,F,F,F,F] rfl rfl (any_of HT_.out (by kernel_rfl)) (fun _ _ _ h => h) (Or.inl ⟨by rfl,?_⟩) ?_ ?_
             rotate_left
             ·intro w'
              go_simp
              with_reducible rfl
             rotate_left
             ·simp only [Act.put,setIfInBounds_toArray,set_cons_zero,set_cons_succ,i64_w,i32_w]
              rfl
             refine pure_ (i:=3) (N:=some 16) (v:=?_) (a':=?_) #[T,T,T,T,F,F,F,F,F,F,F,F,F,F,F,F,F,F,F,F,F,F,F,F,F,F,F,F,F,F,F,F,F,F,F,F,F,F,F,F,F,F,F] rfl rfl (any_of HT_.out (by kernel_rfl)) (fun _ _ _ h => h) (Or.inl ⟨by rfl,?_⟩) ?_ ?_
             rotate_left
             ·intro w'
              go_simp
              with_reducible rfl
             rotate_left
             ·simp only [Act.put,setIfInBounds_toArray,set_cons_zero,set_cons_succ,i64_w,i32_w]
              rfl
             refine take_ (i:=4) (N:=some 17) (v:=?_) (a':=?_) #[T,T,T,T,T,F,F,F,F,F,F,F,F,F,F,F,F,F,F,F,F,F,F,F,F,F,F,F,F,F,F,F,F,F,F,F,F,F,F,F,F,F,F] rfl rfl (take_ofW HT_.out HW_.out (by kernel_rfl)) (fun _ _ _ h => h) (Or.inl ⟨by rfl,?_⟩) hHeld ?_ ?_
             rotate_left
             ·rintro w' ⟨s0,s1,s2,s3,s4,s5,s6,s7,s8,s9,s10,s11,s12,s13,s14,s15,s16,s17,s18,s19,s20,s21,s22,s23,s24,s25,s26,s27,s28,s29,s30,s31,s32,s33,s34⟩
              go_simp
              with_reducible rfl
             rotate_left
             ·simp only [Act.put,setIfInBounds_toArray,set_cons_zero,set_cons_succ,i64_w,i32_w]
              rfl
             refine one_ (i:=5) (N:=some 18) #[T,T,T,T,T,T,F,F,F,F,F,F,F,F,F,F,F,F,F,F,F,F,F,F,F,F,F,F,F,F,F,F,F,F,F,F,F,F,F,F,F,F,F] rfl rfl (one_of HT_.out (by kernel_rfl)) (by decide) (fun K hK => ?_)
             refine goes_ Tryd.func46 (by kernel_rfl) rfl #[.int .i64 ((rd_T88 l0 x3_1).f0),.int .i64 0,.int .i64 99999] (by rfl) rfl rfl (by (try simp only [List.map_toArray,List.map_cons,List.map_nil]); first | done | rfl | (simp only [List.length_drop,List.length_take]; rfl)) ?_
             with_reducible refine (spec_l01In.calls ((rd_T88 l0 x3_1).f0) 0 99999 true _ A5.out).mono ?_
             rintro e w' ⟨rfl,⟨nd,rfl⟩⟩
             refine ⟨_,rfl,?_⟩
             refine hK.out _ _ ⟨((HB.out.cell (bl_ w _ hw157_0)).trans hw157_0),((HB.out.cell (bl_ w _ hw157_1)).trans hw157_1),((HB.out.cell (bl_ w _ hw157_2)).trans hw157_2),((HB.out.cell (bl_ w _ hw157_3)).trans hw157_3),((HB.out.cell (bl_ w _ hw157_4)).trans hw157_4),((HB.out.cell (bl_ w _ hw157_5)).trans hw157_5),((HB.out.cell (bl_ w _ hw157_6)).trans hw157_6),((HB.out.cell (bl_ w _ hw159_0)).trans hw159_0),((HB.out.cell (bl_ w _ hw159_1)).trans hw159_1),((HB.out.cell (bl_ w _ hw159_2)).trans hw159_2),((HB.out.cell (bl_ w _ hw159_3)).trans hw159_3),((HB.out.cell (bl_ w _ hw159_4)).trans hw159_4),((HB.out.cell (bl_ w _ hw159_5)).trans hw159_5),((HB.out.cell (bl_ w _ hw159_6)).trans hw159_6),((HB.out.cell (bl_ w _ hw161_0)).trans hw161_0),((HB.out.cell (bl_ w _ hw161_1)).trans hw161_1),((HB.out.cell (bl_ w _ hw161_2)).trans hw161_2),((HB.out.cell (bl_ w _ hw161_3)).trans hw161_3),((HB.out.cell (bl_ w _ hw161_4)).trans hw161_4),((HB.out.cell (bl_ w _ hw161_5)).trans hw161_5),((HB.out.cell (bl_ w _ hw161_6)).trans hw161_6),((HB.out.cell (bl_ w _ hw162_0)).trans hw162_0),((HB.out.cell (bl_ w _ hw162_1)).trans hw162_1),((HB.out.cell (bl_ w _ hw162_2)).trans hw162_2),((HB.out.cell (bl_ w _ hw162_3)).trans hw162_3),((HB.out.cell (bl_ w _ hw162_4)).trans hw162_4),((HB.out.cell (bl_ w _ hw162_5)).trans hw162_5),((HB.out.cell (bl_ w _ hw162_6)).trans hw162_6),((HB.out.cell (bl_ w _ hw163_0)).trans hw163_0),((HB.out.cell (bl_ w _ hw163_1)).trans hw163_1),((HB.out.cell (bl_ w _ hw163_2)).trans hw163_2),((HB.out.cell (bl_ w _ hw163_3)).trans hw163_3),((HB.out.cell (bl_ w _ hw163_4)).trans hw163_4),((HB.out.cell (bl_ w _ hw163_5)).trans hw163_5),((HB.out.cell (bl_ w _ hw163_6)).trans hw163_6)⟩ (fun hHeld => ?_)
             clear hK K
             refine norm_ (a':=?_) ?_ ?_
             rotate_left
             ·show Act.put _ (some 18) _ = _
              simp only [Act.put,setIfInBounds_toArray,set_cons_zero,set_cons_succ,i64_w,i32_w]
              rfl
             refine pure_ (i:=6) (N:=some 19) (v:=?_) (a':=?_) #[T,T,T,T,T,T,T,F,F,F,F,F,F,F,F,F,F,F,F,F,F,F,F,F,F,F,F,F,F,F,F,F,F,F,F,F,F,F,F,F,F,F,F] rfl rfl (any_of HT_.out (by kernel_rfl)) (fun _ _ _ h => h) (Or.inl ⟨by rfl,?_⟩) ?_ ?_
             rotate_left
             ·intro w'
              go_simp
              with_reducible rfl
             rotate_left
             ·simp only [Act.put,setIfInBounds_toArray,set_cons_zero,set_cons_succ,i64_w,i32_w]
              rfl
             refine pure_ (i:=7) (N:=some 20) (v:=?_) (a':=?_) #[T,T,T,T,T,T,T,T,F,F,F,F,F,F,F,F,F,F,F,F,F,F,F,F,F,F,F,F,F,F,F,F,F,F,F,F,F,F,F,F,F,F,F] rfl rfl (any_of HT_.out (by kernel_rfl)) (fun _ _ _ h => h) (Or.inl ⟨by rfl,?_⟩) ?_ ?_
             rotate_left
             ·intro w'
              go_simp
              with_reducible rfl
             rotate_left
             ·simp only [Act.put,setIfInBounds_toArray,set_cons_zero,set_cons_succ,i64_w,i32_w]
              rfl
             refine pure_ (i:=8) (N:=some 21) (v:=?_) (a':=?_) #[T,T,T,T,T,T,T,T,T,F,F,F,F,F,F,F,F,F,F,F,F,F,F,F,F,F,F,F,F,F,F,F,F,F,F,F,F,F,F,F,F,F,F] rfl rfl (any_of HT_.out (by kernel_rfl)) (fun _ _ _ h => h) (Or.inl ⟨by rfl,?_⟩) ?_ ?_
             rotate_left
             ·intro w'
              go_simp
              with_reducible rfl
             rotate_left
             ·simp only [Act.put,setIfInBounds_toArray,set_cons_zero,set_cons_succ,i64_w,i32_w]
              rfl
             refine pure_ (i:=9) (N:=some 22) (v:=?_) (a':=?_) #[T,T,T,T,T,T,T,T,T,T,F,F,F,F,F,F,F,F,F,F,F,F,F,F,F,F,F,F,F,F,F,F,F,F,F,F,F,F,F,F,F,F,F] rfl rfl (any_of HT_.out (by kernel_rfl)) (fun _ _ _ h => h) (Or.inl ⟨by rfl,?_⟩) ?_ ?_
             rotate_left
             ·intro w'
              go_simp
              with_reducible rfl
             rotate_left
             ·simp only [Act.put,setIfInBounds_toArray,set_cons_zero,set_cons_succ,i64_w,i32_w]
              rfl
             refine pure_ (i:=10) (N:=some 23) (v:=?_) (a':=?_) #[T,T,T,T,T,T,T,T,T,T,T,F,F,F,F,F,F,F,F,F,F,F,F,F,F,F,F,F,F,F,F,F,F,F,F,F,F,F,F,F,F,F,F] rfl rfl (any_of HT_.out (by kernel_rfl)) (fun _ _ _ h => h) (Or.inl ⟨by rfl,?_⟩) ?_ ?_
             rotate_left
             ·intro w'
              go_simp
              with_reducible rfl
             rotate_left
             ·simp only [Act.put,setIfInBounds_toArray,set_cons_zero,set_cons_succ,i64_w,i32_w]
              rfl
             refine pure_ (i:=11) (N:=some 24) (v:=?_) (a':=?_) #[T,T,T,T,T,T,T,T,T,T,T,T,F,F,F,F,F,F,F,F,F,F,F,F,F,F,F,F,F,F,F,F,F,F,F,F,F,F,F,F,F,F,F] rfl rfl (any_of HT_.out (by kernel_rfl)) (fun _ _ _ h => h) (Or.inl ⟨by rfl,?_⟩) ?_ ?_
             rotate_left
             ·intro w'
              go_simp
              with_reducible rfl
             rotate_left
             ·simp only [Act.put,setIfInBounds_toArray,set_cons_zero,set_cons_succ,i64_w,i32_w]
              rfl
             refine take_ (i:=12) (N:=some 25) (v:=?_) (a':=?_) #[T,T,T,T,T,T,T,T,T,T,T,T,T,F,F,F,F,F,F,F,F,F,F,F,F,F,F,F,F,F,F,F,F,F,F,F,F,F,F,F,F,F,F] rfl rfl (take_ofW HT_.out HW_.out (by kernel_rfl)) (fun _ _ _ h => h) (Or.inl ⟨by rfl,?_⟩) hHeld ?_ ?_
             rotate_left
             ·rintro w' ⟨s0,s1,s2,s3,s4,s5,s6,s7,s8,s9,s10,s11,s12,s13,s14,s15,s16,s17,s18,s19,s20,s21,s22,s23,s24,s25,s26,s27,s28,s29,s30,s31,s32,s33,s34⟩
              go_simp
              with_reducible rfl
             rotate_left
             ·simp only [Act.put,setIfInBounds_toArray,set_cons_zero,set_cons_succ,i64_w,i32_w]
              rfl
             refine one_ (i:=13) (N:=some 26) #[T,T,T,T,T,T,T,T,T,T,T,T,T,T,F,F,F,F,F,F,F,F,F,F,F,F,F,F,F,F,F,F,F,F,F,F,F,F,F,F,F,F,F] rfl rfl (one_of HT_.out (by kernel_rfl)) (by decide) (fun K hK => ?_)
             refine goes_ Tryd.func101 (by kernel_rfl) rfl #[.agg #[.int .i64 ((rd_T88 l0 x3_1).f1.f0),.int .i64 ((rd_T88 l0 x3_1).f1.f1),.int .i64 ((rd_T88 l0 x3_1).f1.f2),.int .i64 ((rd_T88 l0 x3_1).f1.f3),.int .i64 ((rd_T88 l0 x3_1).f1.f4),.int .i64 ((rd_T88 l0 x3_1).f1.f5)]] (by rfl) rfl rfl (by (try simp only [List.map_toArray,List.map_cons,List.map_nil]); first | done | rfl | (simp only [List.length_drop,List.length_take]; rfl)) ?_
             with_reducible refine (spec_AggOK.calls ((rd_T88 l0 x3_1).f1.f0) ((rd_T88 l0 x3_1).f1.f1) ((rd_T88 l0 x3_1).f1.f2) ((rd_T88 l0 x3_1).f1.f3) ((rd_T88 l0 x3_1).f1.f4) ((rd_T88 l0 x3_1).f1.f5) true _ A7.out).mono ?_
             rintro e w18 ⟨rfl,hb⟩
             refine ⟨_,rfl,?_⟩
             have n0_ := Aside0.mk (below_step (by repeat (first | (with_reducible first | exact HB.out | apply below_alloc | apply pw_below_drewN | apply below_drew1) | exact HB.out)) hb)
             clear HB
             have HB := n0_
             clear n0_
             (try clear hb)
             (try clear hb2)
             (try clear hk)
             (try clear hi)
             refine hK.out _ _ ⟨((HB.out.cell (bl_ w _ hw157_0)).trans hw157_0),((HB.out.cell (bl_ w _ hw157_1)).trans hw157_1),((HB.out.cell (bl_ w _ hw157_2)).trans hw157_2),((HB.out.cell (bl_ w _ hw157_3)).trans hw157_3),((HB.out.cell (bl_ w _ hw157_4)).trans hw157_4),((HB.out.cell (bl_ w _ hw157_5)).trans hw157_5),((HB.out.cell (bl_ w _ hw157_6)).trans hw157_6),((HB.out.cell (bl_ w _ hw159_0)).trans hw159_0),((HB.out.cell (bl_ w _ hw159_1)).trans hw159_1),((HB.out.cell (bl_ w _ hw159_2)).trans hw159_2),((HB.out.cell (bl_ w _ hw159_3)).trans hw159_3),((HB.out.cell (bl_ w _ hw159_4)).trans hw159_4),((HB.out.cell (bl_ w _ hw159_5)).trans hw159_5),((HB.out.cell (bl_ w _ hw159_6)).trans hw159_6),((HB.out.cell (bl_ w _ hw161_0)).trans hw161_0),((HB.out.cell (bl_ w _ hw161_1)).trans hw161_1),((HB.out.cell (bl_ w _ hw161_2)).trans hw161_2),((HB.out.cell (bl_ w _ hw161_3)).trans hw161_3),((HB.out.cell (bl_ w _ hw161_4)).trans hw161_4),((HB.out.cell (bl_ w _ hw161_5)).trans hw161_5),((HB.out.cell (bl_ w _ hw161_6)).trans hw161_6),((HB.out.cell (bl_ w _ hw162_0)).trans hw162_0),((HB.out.cell (bl_ w _ hw162_1)).trans hw162_1),((HB.out.cell (bl_ w _ hw162_2)).trans hw162_2),((HB.out.cell (bl_ w _ hw162_3)).trans hw162_3),((HB.out.cell (bl_ w _ hw162_4)).trans hw162_4),((HB.out.cell (bl_ w _ hw162_5)).trans hw162_5),((HB.out.cell (bl_ w _ hw162_6)).trans hw162_6),((HB.out.cell (bl_ w _ hw163_0)).trans hw163_0),((HB.out.cell (bl_ w _ hw163_1)).trans hw163_1),((HB.out.cell (bl_ w _ hw163_2)).trans hw163_2),((HB.out.cell (bl_ w _ hw163_3)).trans hw163_3),((HB.out.cell (bl_ w _ hw163_4)).trans hw163_4),((HB.out.cell (bl_ w _ hw163_5)).trans hw163_5),((HB.out.cell (bl_ w _ hw163_6)).trans hw163_6)⟩ (fun hHeld => ?_)
             clear hK K
             refine norm_ (a':=?_) ?_ ?_
             rotate_left
             ·show Act.put _ (some 26) _ = _
              simp only [Act.put,setIfInBounds_toArray,set_cons_zero,set_cons_succ,i64_w,i32_w]
              rfl
             refine pure_ (i:=14) (N:=some 27) (v:=?_) (a':=?_) #[T,T,T,T,T,T,T,T,T,T,T,T,T,T,T,F,F,F,F,F,F,F,F,F,F,F,F,F,F,F,F,F,F,F,F,F,F,F,F,F,F,F,F] rfl rfl (any_of HT_.out (by kernel_rfl)) (fun _ _ _ h => h) (Or.inl ⟨by rfl,?_⟩) ?_ ?_
             rotate_left
             ·intro w'
              go_simp
              with_reducible rfl
             rotate_left
             ·simp only [Act.put,setIfInBounds_toArray,set_cons_zero,set_cons_succ,i64_w,i32_w]
              rfl
             refine pure_ (i:=15) (N:=some 28) (v:=?_) (a':=?_) #[T,T,T,T,T,T,T,T,T,T,T,T,T,T,T,T,F,F,F,F,F,F,F,F,F,F,F,F,F,F,F,F,F,F,F,F,F,F,F,F,F,F,F] rfl rfl (any_of HT_.out (by kernel_rfl)) (fun _ _ _ h => h) (Or.inl ⟨by rfl,?_⟩) ?_ ?_
             rotate_left
             ·intro w'
              go_simp
              with_reducible rfl
             rotate_left
             ·simp only [Act.put,setIfInBounds_toArray,set_cons_zero,set_cons_succ,i64_w,i32_w]
              rfl
             refine pure_ (i:=16) (N:=some 29) (v:=?_) (a':=?_) #[T,T,T,T,T,T,T,T,T,T,T,T,T,T,T,T,T,F,F,F,F,F,F,F,F,F,F,F,F,F,F,F,F,F,F,F,F,F,F,F,F,F,F] rfl rfl (any_of HT_.out (by kernel_rfl)) (fun _ _ _ h => h) (Or.inl ⟨by rfl,?_⟩) ?_ ?_
             rotate_left
             ·intro w'
              go_simp
              with_reducible rfl
             rotate_left
             ·simp only [Act.put,setIfInBounds_toArray,set_cons_zero,set_cons_succ,i64_w,i32_w]
              rfl
             refine pure_ (i:=17) (N:=some 30) (v:=?_) (a':=?_) #[T,T,T,T,T,T,T,T,T,T,T,T,T,T,T,T,T,T,F,F,F,F,F,F,F,F,F,F,F,F,F,F,F,F,F,F,F,F,F,F,F,F,F] rfl rfl (any_of HT_.out (by kernel_rfl)) (fun _ _ _ h => h) (Or.inl ⟨by rfl,?_⟩) ?_ ?_
             rotate_left
             ·intro w'
              go_simp
              with_reducible rfl
             rotate_left
             ·simp only [Act.put,setIfInBounds_toArray,set_cons_zero,set_cons_succ,i64_w,i32_w]
              rfl
             refine pure_ (i:=18) (N:=some 31) (v:=?_) (a':=?_) #[T,T,T,T,T,T,T,T,T,T,T,T,T,T,T,T,T,T,T,F,F,F,F,F,F,F,F,F,F,F,F,F,F,F,F,F,F,F,F,F,F,F,F] rfl rfl (any_of HT_.out (by kernel_rfl)) (fun _ _ _ h => h) (Or.inl ⟨by rfl,?_⟩) ?_ ?_
             rotate_left
             ·intro w'
              go_simp
              with_reducible rfl
             rotate_left
             ·simp only [Act.put,setIfInBounds_toArray,set_cons_zero,set_cons_succ,i64_w,i32_w]
              rfl
             refine pure_ (i:=19) (N:=some 32) (v:=?_) (a':=?_) #[T,T,T,T,T,T,T,T,T,T,T,T,T,T,T,T,T,T,T,T,F,F,F,F,F,F,F,F,F,F,F,F,F,F,F,F,F,F,F,F,F,F,F] rfl rfl (any_of HT_.out (by kernel_rfl)) (fun _ _ _ h => h) (Or.inl ⟨by rfl,?_⟩) ?_ ?_
             rotate_left
             ·intro w'
              go_simp
              with_reducible rfl
             rotate_left
             ·simp only [Act.put,setIfInBounds_toArray,set_cons_zero,set_cons_succ,i64_w,i32_w]
              rfl
             refine pure_ (i:=20) (N:=some 33) (v:=?_) (a':=?_) #[T,T,T,T,T,T,T,T,T,T,T,T,T,T,T,T,T,T,T,T,T,F,F,F,F,F,F,F,F,F,F,F,F,F,F,F,F,F,F,F,F,F,F] rfl rfl (any_of HT_.out (by kernel_rfl)) (fun _ _ _ h => h) (Or.inl ⟨by rfl,?_⟩) ?_ ?_
             rotate_left
             ·intro w'
              go_simp
              with_reducible rfl
             rotate_left
             ·simp only [Act.put,setIfInBounds_toArray,set_cons_zero,set_cons_succ,i64_w,i32_w]
              rfl
             refine pure_ (i:=21) (N:=some 34) (v:=?_) (a':=?_) #[T,T,T,T,T,T,T,T,T,T,T,T,T,T,T,T,T,T,T,T,T,T,F,F,F,F,F,F,F,F,F,F,F,F,F,F,F,F,F,F,F,F,F] rfl rfl (any_of HT_.out (by kernel_rfl)) (fun _ _ _ h => h) (Or.inl ⟨by rfl,?_⟩) ?_ ?_
             rotate_left
             ·intro w'
              go_simp
              with_reducible rfl
             rotate_left
             ·simp only [Act.put,setIfInBounds_toArray,set_cons_zero,set_cons_succ,i64_w,i32_w]
              rfl
             refine take_ (i:=22) (N:=some 35) (v:=?_) (a':=?_) #[T,T,T,T,T,T,T,T,T,T,T,T,T,T,T,T,T,T,T,T,T,T,T,F,F,F,F,F,F,F,F,F,F,F,F,F,F,F,F,F,F,F,F] rfl rfl (take_ofW HT_.out HW_.out (by kernel_rfl)) (fun _ _ _ h => h) (Or.inl ⟨by rfl,?_⟩) hHeld ?_ ?_
             rotate_left
             ·rintro w' ⟨s0,s1,s2,s3,s4,s5,s6,s7,s8,s9,s10,s11,s12,s13,s14,s15,s16,s17,s18,s19,s20,s21,s22,s23,s24,s25,s26,s27,s28,s29,s30,s31,s32,s33,s34⟩
              go_simp
              with_reducible rfl
             rotate_left
             ·simp only [Act.put,setIfInBounds_toArray,set_cons_zero,set_cons_succ,i64_w,i32_w]
              rfl
             refine pure_ (i:=23) (N:=some 36) (v:=?_) (a':=?_) #[T,T,T,T,T,T,T,T,T,T,T,T,T,T,T,T,T,T,T,T,T,T,T,T,F,F,F,F,F,F,F,F,F,F,F,F,F,F,F,F,F,F,F] rfl rfl (any_of HT_.out (by kernel_rfl)) (fun _ _ _ h => h) (Or.inl ⟨by rfl,?_⟩) ?_ ?_
             rotate_left
             ·intro w'
              go_simp
              with_reducible rfl
             rotate_left
             ·simp only [Act.put,setIfInBounds_toArray,set_cons_zero,set_cons_succ,i64_w,i32_w]
              rfl
             refine pure_ (i:=24) (N:=some 37) (v:=?_) (a':=?_) #[T,T,T,T,T,T,T,T,T,T,T,T,T,T,T,T,T,T,T,T,T,T,T,T,T,F,F,F,F,F,F,F,F,F,F,F,F,F,F,F,F,F,F] rfl rfl (any_of HT_.out (by kernel_rfl)) (fun _ _ _ h => h) (Or.inl ⟨by rfl,?_⟩) ?_ ?_
             rotate_left
             ·intro w'
              go_simp
              with_reducible rfl
             rotate_left
             ·simp only [Act.put,setIfInBounds_toArray,set_cons_zero,set_cons_succ,i64_w,i32_w]
              rfl
             refine pure_ (i:=25) (N:=some 38) (v:=?_) (a':=?_) #[T,T,T,T,T,T,T,T,T,T,T,T,T,T,T,T,T,T,T,T,T,T,T,T,T,T,F,F,F,F,F,F,F,F,F,F,F,F,F,F,F,F,F] rfl rfl (any_of HT_.out (by kernel_rfl)) (fun _ _ _ h => h) (Or.inl ⟨by rfl,?_⟩) ?_ ?_
             rotate_left
             ·intro w'
              go_simp
              with_reducible rfl
             rotate_left
             ·simp only [Act.put,setIfInBounds_toArray,set_cons_zero,set_cons_succ,i64_w,i32_w]
              rfl
             refine pure_ (i:=26) (N:=some 39) (v:=?_) (a':=?_) #[T,T,T,T,T,T,T,T,T,T,T,T,T,T,T,T,T,T,T,T,T,T,T,T,T,T,T,F,F,F,F,F,F,F,F,F,F,F,F,F,F,F,F] rfl rfl (any_of HT_.out (by kernel_rfl)) (fun _ _ _ h => h) (Or.inl ⟨by rfl,?_⟩) ?_ ?_
             rotate_left
             ·intro w'
              go_simp
              with_reducible rfl
             rotate_left
             ·simp only [Act.put,setIfInBounds_toArray,set_cons_zero,set_cons_succ,i64_w,i32_w]
              rfl
             refine pure_ (i:=27) (N:=some 40) (v:=?_) (a':=?_) #[T,T,T,T,T,T,T,T,T,T,T,T,T,T,T,T,T,T,T,T,T,T,T,T,T,T,T,T,F,F,F,F,F,F,F,F,F,F,F,F,F,F,F] rfl rfl (any_of HT_.out (by kernel_rfl)) (fun _ _ _ h => h) (Or.inl ⟨by rfl,?_⟩) ?_ ?_
             rotate_left
             ·intro w'
              go_simp
              with_reducible rfl
             rotate_left
             ·simp only [Act.put,setIfInBounds_toArray,set_cons_zero,set_cons_succ,i64_w,i32_w]
              rfl
             refine pure_ (i:=28) (N:=some 41) (v:=?_) (a':=?_) #[T,T,T,T,T,T,T,T,T,T,T,T,T,T,T,T,T,T,T,T,T,T,T,T,T,T,T,T,T,F,F,F,F,F,F,F,F,F,F,F,F,F,F] rfl rfl (any_of HT_.out (by kernel_rfl)) (fun _ _ _ h => h) (Or.inl ⟨by rfl,?_⟩) ?_ ?_
             rotate_left
             ·intro w'
              go_simp
              with_reducible rfl
             rotate_left
             ·simp only [Act.put,setIfInBounds_toArray,set_cons_zero,set_cons_succ,i64_w,i32_w]
              rfl
             refine pure_ (i:=29) (N:=some 42) (v:=?_) (a':=?_) #[T,T,T,T,T,T,T,T,T,T,T,T,T,T,T,T,T,T,T,T,T,T,T,T,T,T,T,T,T,T,F,F,F,F,F,F,F,F,F,F,F,F,F] rfl rfl (any_of HT_.out (by kernel_rfl)) (fun _ _ _ h => h) (Or.inl ⟨by rfl,?_⟩) ?_ ?_
             rotate_left
             ·intro w'
              go_simp
              with_reducible rfl
             rotate_left
             ·simp only [Act.put,setIfInBounds_toArray,set_cons_zero,set_cons_succ,i64_w,i32_w]
              rfl
             refine pure_ (i:=30) (N:=some 43) (v:=?_) (a':=?_) #[T,T,T,T,T,T,T,T,T,T,T,T,T,T,T,T,T,T,T,T,T,T,T,T,T,T,T,T,T,T,T,F,F,F,F,F,F,F,F,F,F,F,F] rfl rfl (any_of HT_.out (by kernel_rfl)) (fun _ _ _ h => h) (Or.inl ⟨by rfl,?_⟩) ?_ ?_
             rotate_left
             ·intro w'
              go_simp
              with_reducible rfl
             rotate_left
             ·simp only [Act.put,setIfInBounds_toArray,set_cons_zero,set_cons_succ,i64_w,i32_w]
              rfl
             refine pure_ (i:=31) (N:=some 44) (v:=?_) (a':=?_) #[T,T,T,T,T,T,T,T,T,T,T,T,T,T,T,T,T,T,T,T,T,T,T,T,T,T,T,T,T,T,T,T,F,F,F,F,F,F,F,F,F,F,F] rfl rfl (any_of HT_.out (by kernel_rfl)) (fun _ _ _ h => h) (Or.inl ⟨by rfl,?_⟩) ?_ ?_
             rotate_left
             ·intro w'
              go_simp
              with_reducible rfl
             rotate_left
             ·simp only [Act.put,setIfInBounds_toArray,set_cons_zero,set_cons_succ,i64_w,i32_w]
              rfl
             refine pure_ (i:=32) (N:=some 45) (v:=?_) (a':=?_) #[T,T,T,T,T,T,T,T,T,T,T,T,T,T,T,T,T,T,T,T,T,T,T,T,T,T,T,T,T,T,T,T,T,F,F,F,F,F,F,F,F,F,F] rfl rfl (any_of HT_.out (by kernel_rfl)) (fun _ _ _ h => h) (Or.inl ⟨by rfl,?_⟩) ?_ ?_
             rotate_left
             ·intro w'
              go_simp
              with_reducible rfl
             rotate_left
             ·simp only [Act.put,setIfInBounds_toArray,set_cons_zero,set_cons_succ,i64_w,i32_w]
              rfl
             refine pure_ (i:=33) (N:=some 46) (v:=?_) (a':=?_) #[T,T,T,T,T,T,T,T,T,T,T,T,T,T,T,T,T,T,T,T,T,T,T,T,T,T,T,T,T,T,T,T,T,T,F,F,F,F,F,F,F,F,F] rfl rfl (any_of HT_.out (by kernel_rfl)) (fun _ _ _ h => h) (Or.inl ⟨by rfl,?_⟩) ?_ ?_
             rotate_left
             ·intro w'
              go_simp
              with_reducible rfl
             rotate_left
             ·simp only [Act.put,setIfInBounds_toArray,set_cons_zero,set_cons_succ,i64_w,i32_w]
              rfl
             refine pure_ (i:=35) (N:=some 48) (v:=?_) (a':=?_) #[T,T,T,T,T,T,T,T,T,T,T,T,T,T,T,T,T,T,T,T,T,T,T,T,T,T,T,T,T,T,T,T,T,T,F,T,F,F,F,F,F,F,F] rfl rfl (any_of HT_.out (by kernel_rfl)) (fun _ _ _ h => h) (Or.inl ⟨by rfl,?_⟩) ?_ ?_
             rotate_left
             ·intro w'
              go_simp
              with_reducible rfl
             rotate_left
             ·simp only [Act.put,setIfInBounds_toArray,set_cons_zero,set_cons_succ,i64_w,i32_w]
              rfl
             refine pure_ (i:=36) (N:=some 49) (v:=?_) (a':=?_) #[T,T,T,T,T,T,T,T,T,T,T,T,T,T,T,T,T,T,T,T,T,T,T,T,T,T,T,T,T,T,T,T,T,T,F,T,T,F,F,F,F,F,F] rfl rfl (any_of HT_.out (by kernel_rfl)) (fun _ _ _ h => h) (Or.inl ⟨by rfl,?_⟩) ?_ ?_
             rotate_left
             ·intro w'
              go_simp
              with_reducible rfl
             rotate_left
             ·simp only [Act.put,setIfInBounds_toArray,set_cons_zero,set_cons_succ,i64_w,i32_w]
              rfl
             refine pure_ (i:=37) (N:=some 50) (v:=?_) (a':=?_) #[T,T,T,T,T,T,T,T,T,T,T,T,T,T,T,T,T,T,T,T,T,T,T,T,T,T,T,T,T,T,T,T,T,T,F,T,T,T,F,F,F,F,F] rfl rfl (any_of HT_.out (by kernel_rfl)) (fun _ _ _ h => h) (Or.inl ⟨by rfl,?_⟩) ?_ ?_
             rotate_left
             ·intro w'
              go_simp
              with_reducible rfl
             rotate_left
             ·simp only [Act.put,setIfInBounds_toArray,set_cons_zero,set_cons_succ,i64_w,i32_w]
              rfl
             refine pure_ (i:=38) (N:=some 51) (v:=?_) (a':=?_) #[T,T,T,T,T,T,T,T,T,T,T,T,T,T,T,T,T,T,T,T,T,T,T,T,T,T,T,T,T,T,T,T,T,T,F,T,T,T,T,F,F,F,F] rfl rfl (any_of HT_.out (by kernel_rfl)) (fun _ _ _ h => h) (Or.inl ⟨by rfl,?_⟩) ?_ ?_
             rotate_left
             ·intro w'
              go_simp
              with_reducible rfl
             rotate_left
             ·simp only [Act.put,setIfInBounds_toArray,set_cons_zero,set_cons_succ,i64_w,i32_w]
              rfl
             refine take_ (i:=34) (N:=some 47) (v:=?_) (a':=?_) #[T,T,T,T,T,T,T,T,T,T,T,T,T,T,T,T,T,T,T,T,T,T,T,T,T,T,T,T,T,T,T,T,T,T,T,T,T,T,T,F,F,F,F] rfl rfl (take_ofW HT_.out HW_.out (by kernel_rfl)) (fun _ _ _ h => h) (Or.inl ⟨by rfl,?_⟩) hHeld ?_ ?_
             rotate_left
             ·rintro w' ⟨s0,s1,s2,s3,s4,s5,s6,s7,s8,s9,s10,s11,s12,s13,s14,s15,s16,s17,s18,s19,s20,s21,s22,s23,s24,s25,s26,s27,s28,s29,s30,s31,s32,s33,s34⟩
              go_simp
              with_reducible rfl
             rotate_left
             ·simp only [Act.put,setIfInBounds_toArray,set_cons_zero,set_cons_succ,i64_w,i32_w]
              rfl
             refine take_ (i:=39) (N:=some 52) (v:=?_) (a':=?_) #[T,T,T,T,T,T,T,T,T,T,T,T,T,T,T,T,T,T,T,T,T,T,T,T,T,T,T,T,T,T,T,T,T,T,T,T,T,T,T,T,F,F,F] rfl rfl (take_ofW HT_.out HW_.out (by kernel_rfl)) (fun _ _ _ h => h) (Or.inl ⟨by rfl,?_⟩) hHeld ?_ ?_
             rotate_left
             ·rintro w' ⟨s0,s1,s2,s3,s4,s5,s6,s7,s8,s9,s10,s11,s12,s13,s14,s15,s16,s17,s18,s19,s20,s21,s22,s23,s24,s25,s26,s27,s28,s29,s30,s31,s32,s33,s34⟩
              go_simp
              with_reducible rfl
             rotate_left
             ·simp only [Act.put,setIfInBounds_toArray,set_cons_zero,set_cons_succ,i64_w,i32_w]
              rfl
             refine pure_ (i:=40) (N:=some 53) (v:=?_) (a':=?_) #[T,T,T,T,T,T,T,T,T,T,T,T,T,T,T,T,T,T,T,T,T,T,T,T,T,T,T,T,T,T,T,T,T,T,T,T,T,T,T,T,T,F,F] rfl rfl (any_of HT_.out (by kernel_rfl)) (fun _ _ _ h => h) (Or.inl ⟨by rfl,?_⟩) ?_ ?_
             rotate_left
             ·intro w'
              go_simp
              with_reducible rfl
             rotate_left
             ·simp only [Act.put,setIfInBounds_toArray,set_cons_zero,set_cons_succ,i64_w,i32_w]
              rfl
             refine pure_ (i:=41) (N:=some 54) (v:=?_) (a':=?_) #[T,T,T,T,T,T,T,T,T,T,T,T,T,T,T,T,T,T,T,T,T,T,T,T,T,T,T,T,T,T,T,T,T,T,T,T,T,T,T,T,T,T,F] rfl rfl (any_of HT_.out (by kernel_rfl)) (fun _ _ _ h => h) (Or.inl ⟨by rfl,?_⟩) ?_ ?_
             rotate_left
             ·intro w'
              go_simp
              with_reducible rfl
             rotate_left
             ·simp only [Act.put,setIfInBounds_toArray,set_cons_zero,set_cons_succ,i64_w,i32_w]
              rfl
             refine pure_ (i:=42) (N:=some 55) (v:=?_) (a':=?_) #[T,T,T,T,T,T,T,T,T,T,T,T,T,T,T,T,T,T,T,T,T,T,T,T,T,T,T,T,T,T,T,T,T,T,T,T,T,T,T,T,T,T,T] rfl rfl (any_of HT_.out (by kernel_rfl)) (fun _ _ _ h => h) (Or.inl ⟨by rfl,?_⟩) ?_ ?_
             rotate_left
             ·intro w'
              go_simp
              with_reducible rfl
             rotate_left
             ·simp only [Act.put,setIfInBounds_toArray,set_cons_zero,set_cons_succ,i64_w,i32_w]
              rfl
             refine done_ (done_of HT_.out (by kernel_rfl)) ?_
             try go_wp2
             go_ret
             exact ⟨by first | rfl | (simp only [i64_w,i32_w] <;> rfl) | (simp [errW_none,errW_some] <;> rfl) | (simp only [← hji13]; first | rfl | (simp [errW_none,errW_some] <;> rfl)) | (simp [*,errW_none,errW_some] <;> rfl),by repeat (first | (with_reducible first | exact HB.out | apply below_alloc | apply pw_below_drewN | apply below_drew1) | exact HB.out)⟩
            ·rw [if_neg c16] at H
             have c16b0 : decide (((rd_T88 l0 x3_1).f0) ≤ ((rd_T88 l0 (ji13)).f0)) = false := decide_eq_false c16
             clear c16
             have H' := Aside0.mk H
             clear H
             try go_wp2
             have n0_ := Aside0.mk (below_drew1 HB.out)
             clear HB
             have HB := n0_
             clear n0_
             have p157 : 0 ≤ (x3_1 : Int) := of_decide_eq_true (by first | (with_reducible assumption) | assumption)
             have q157 : x3_1 < (l0.length : Int) := of_decide_eq_true (by first | (with_reducible assumption) | assumption)
             obtain ⟨ad157,e157,hx157_0,hx157_1,hx157_2,hx157_3,hx157_4,hx157_5,hx157_6⟩ := at_T88 HR0.out x3_1 p157 q157
             have hw157_6 := hx157_6
             have hw157_5 := hx157_5
             have hw157_4 := hx157_4
             have hw157_3 := hx157_3
             have hw157_2 := hx157_2
             have hw157_1 := hx157_1
             have hw157_0 := hx157_0
             cases e157
             replace hx157_0 := (HB.out.cell (bl_ w _ hx157_0)).trans hx157_0
             replace hx157_1 := (HB.out.cell (bl_ w _ hx157_1)).trans hx157_1
             replace hx157_2 := (HB.out.cell (bl_ w _ hx157_2)).trans hx157_2
             replace hx157_3 := (HB.out.cell (bl_ w _ hx157_3)).trans hx157_3
             replace hx157_4 := (HB.out.cell (bl_ w _ hx157_4)).trans hx157_4
             replace hx157_5 := (HB.out.cell (bl_ w _ hx157_5)).trans hx157_5
             replace hx157_6 := (HB.out.cell (bl_ w _ hx157_6)).trans hx157_6
             replace p157 := eq_true p157
             replace q157 := eq_true q157
             have p159 : 0 ≤ (x3_1 : Int) := of_decide_eq_true (by first | (with_reducible assumption) | assumption)
             have q159 : x3_1 < (l0.length : Int) := of_decide_eq_true (by first | (with_reducible assumption) | assumption)
             obtain ⟨ad159,e159,hx159_0,hx159_1,hx159_2,hx159_3,hx159_4,hx159_5,hx159_6⟩ := at_T88 HR0.out x3_1 p159 q159
             have hw159_6 := hx159_6
             have hw159_5 := hx159_5
             have hw159_4 := hx159_4
             have hw159_3 := hx159_3
             have hw159_2 := hx159_2
             have hw159_1 := hx159_1
             have hw159_0 := hx159_0
             obtain rfl : ad157 = ad159 := (by injection e159)
             replace hx159_0 := (HB.out.cell (bl_ w _ hx159_0)).trans hx159_0
             replace hx159_1 := (HB.out.cell (bl_ w _ hx159_1)).trans hx159_1
             replace hx159_2 := (HB.out.cell (bl_ w _ hx159_2)).trans hx159_2
             replace hx159_3 := (HB.out.cell (bl_ w _ hx159_3)).trans hx159_3
             replace hx159_4 := (HB.out.cell (bl_ w _ hx159_4)).trans hx159_4
             replace hx159_5 := (HB.out.cell (bl_ w _ hx159_5)).trans hx159_5
             replace hx159_6 := (HB.out.cell (bl_ w _ hx159_6)).trans hx159_6
             replace p159 := eq_true p159
             replace q159 := eq_true q159
             have p161 : 0 ≤ (x3_1 : Int) := of_decide_eq_true (by first | (with_reducible assumption) | assumption)
             have q161 : x3_1 < (l0.length : Int) := of_decide_eq_true (by first | (with_reducible assumption) | assumption)
             obtain ⟨ad161,e161,hx161_0,hx161_1,hx161_2,hx161_3,hx161_4,hx161_5,hx161_6⟩ := at_T88 HR0.out x3_1 p161 q161
             have hw161_6 := hx161_6
             have hw161_5 := hx161_5
             have hw161_4 := hx161_4
             have hw161_3 := hx161_3
             have hw161_2 := hx161_2
             have hw161_1 := hx161_1
             have hw161_0 := hx161_0
             obtain rfl : ad157 = ad161 := (by injection e161)
             replace hx161_0 := (HB.out.cell (bl_ w _ hx161_0)).trans hx161_0
             replace hx161_1 := (HB.out.cell (bl_ w _ hx161_1)).trans hx161_1
             replace hx161_2 := (HB.out.cell (bl_ w _ hx161_2)).trans hx161_2
             replace hx161_3 := (HB.out.cell (bl_ w _ hx161_3)).trans hx161_3
             replace hx161_4 := (HB.out.cell (bl_ w _ hx161_4)).trans hx161_4
             replace hx161_5 := (HB.out.cell (bl_ w _ hx161_5)).trans hx161_5
             replace hx161_6 := (HB.out.cell (bl_ w _ hx161_6)).trans hx161_6
             replace p161 := eq_true p161
             replace q161 := eq_true q161
             have p162 : 0 ≤ ((ji13) : Int) := of_decide_eq_true (by first | (with_reducible assumption) | assumption)
             have q162 : (ji13) < (l0.length : Int) := of_decide_eq_true (by first | (with_reducible assumption) | assumption)
             obtain ⟨ad162,e162,hx162_0,hx162_1,hx162_2,hx162_3,hx162_4,hx162_5,hx162_6⟩ := at_T88 HR0.out (ji13) p162 q162
             have hw162_6 := hx162_6
             have hw162_5 := hx162_5
             have hw162_4 := hx162_4
             have hw162_3 := hx162_3
             have hw162_2 := hx162_2
             have hw162_1 := hx162_1
             have hw162_0 := hx162_0
             obtain rfl : ad157 = ad162 := (by injection e162)
             replace hx162_0 := (HB.out.cell (bl_ w _ hx162_0)).trans hx162_0
             replace hx162_1 := (HB.out.cell (bl_ w _ hx162_1)).trans hx162_1
             replace hx162_2 := (HB.out.cell (bl_ w _ hx162_2)).trans hx162_2
             replace hx162_3 := (HB.out.cell (bl_ w _ hx162_3)).trans hx162_3
             replace hx162_4 := (HB.out.cell (bl_ w _ hx162_4)).trans hx162_4
             replace hx162_5 := (HB.out.cell (bl_ w _ hx162_5)).trans hx162_5
             replace hx162_6 := (HB.out.cell (bl_ w _ hx162_6)).trans hx162_6
             replace p162 := eq_true p162
             replace q162 := eq_true q162
             have p163 : 0 ≤ (x3_1 : Int) := of_decide_eq_true (by first | (with_reducible assumption) | assumption)
             have q163 : x3_1 < (l0.length : Int) := of_decide_eq_true (by first | (with_reducible assumption) | assumption)
             obtain ⟨ad163,e163,hx163_0,hx163_1,hx163_2,hx163_3,hx163_4,hx163_5,hx163_6⟩ := at_T88 HR0.out x3_1 p163 q163
             have hw163_6 := hx163_6
             have hw163_5 := hx163_5
             have hw163_4 := hx163_4
             have hw163_3 := hx163_3
             have hw163_2 := hx163_2
             have hw163_1 := hx163_1
             have hw163_0 := hx163_0
             obtain rfl : ad157 = ad163 := (by injection e163)
             replace hx163_0 := (HB.out.cell (bl_ w _ hx163_0)).trans hx163_0
             replace hx163_1 := (HB.out.cell (bl_ w _ hx163_1)).trans hx163_1
             replace hx163_2 := (HB.out.cell (bl_ w _ hx163_2)).trans hx163_2
             replace hx163_3 := (HB.out.cell (bl_ w _ hx163_3)).trans hx163_3
             replace hx163_4 := (HB.out.cell (bl_ w _ hx163_4)).trans hx163_4
             replace hx163_5 := (HB.out.cell (bl_ w _ hx163_5)).trans hx163_5
             replace hx163_6 := (HB.out.cell (bl_ w _ hx163_6)).trans hx163_6
             replace p163 := eq_true p163
             replace q163 := eq_true q163
             refine start_ (n:=43) (S:=fun w' => w'.cell? (ad157.add ((x3_1).toNat * 7)) = some (.int .i64 ((rd_T88 l0 x3_1).f0)) ∧ w'.cell? ⟨(ad157.add ((x3_1).toNat * 7)).block,(ad157.add ((x3_1).toNat * 7)).off + 1,none⟩ = some (.int .i64 ((rd_T88 l0 x3_1).f1.f0)) ∧ w'.cell? ⟨(ad157.add ((x3_1).toNat * 7)).block,(ad157.add ((x3_1).toNat * 7)).off + 2,none⟩ = some (.int .i64 ((rd_T88 l0 x3_1).f1.f1)) ∧ w'.cell? ⟨(ad157.add ((x3_1).toNat * 7)).block,(ad157.add ((x3_1).toNat * 7)).off + 3,none⟩ = some (.int .i64 ((rd_T88 l0 x3_1).f1.f2)) ∧ w'.cell? ⟨(ad157.add ((x3_1).toNat * 7)).block,(ad157.add ((x3_1).toNat * 7)).off + 4,none⟩ = some (.int .i64 ((rd_T88 l0 x3_1).f1.f3)) ∧ w'.cell? ⟨(ad157.add ((x3_1).toNat * 7)).block,(ad157.add ((x3_1).toNat * 7)).off + 5,none⟩ = some (.int .i64 ((rd_T88 l0 x3_1).f1.f4)) ∧ w'.cell? ⟨(ad157.add ((x3_1).toNat * 7)).block,(ad157.add ((x3_1).toNat * 7)).off + 6,none⟩ = some (.int .i64 ((rd_T88 l0 x3_1).f1.f5)) ∧ w'.cell? (ad157.add ((x3_1).toNat * 7)) = some (.int .i64 ((rd_T88 l0 x3_1).f0)) ∧ w'.cell? ⟨(ad157.add ((x3_1).toNat * 7)).block,(ad157.add ((x3_1).toNat * 7)).off + 1,none⟩ = some (.int .i64 ((rd_T88 l0 x3_1).f1.f0)) ∧ w'.cell? ⟨(ad157.add ((x3_1).toNat * 7)).block,(ad157.add ((x3_1).toNat * 7)).off + 2,none⟩ = some (.int .i64 ((rd_T88 l0 x3_1).f1.f1)) ∧ w'.cell? ⟨(ad157.add ((x3_1).toNat * 7)).block,(ad157.add ((x3_1).toNat * 7)).off + 3,none⟩ = some (.int .i64 ((rd_T88 l0 x3_1).f1.f2)) ∧ w'.cell? ⟨(ad157.add ((x3_1).toNat * 7)).block,(ad157.add ((x3_1).toNat * 7)).off + 4,none⟩ = some (.int .i64 ((rd_T88 l0 x3_1).f1.f3)) ∧ w'.cell? ⟨(ad157.add ((x3_1).toNat * 7)).block,(ad157.add ((x3_1).toNat * 7)).off + 5,none⟩ = some (.int .i64 ((rd_T88 l0 x3_1).f1.f4)) ∧ w'.cell? ⟨(ad157.add ((x3_1).toNat * 7)).block,(ad157.add ((x3_1).toNat * 7)).off + 6,none⟩ = some (.int .i64 ((rd_T88 l0 x3_1).f1.f5)) ∧ w'.cell? (ad157.add ((x3_1).toNat * 7)) = some (.int .i64 ((rd_T88 l0 x3_1).f0)) ∧ w'.cell? ⟨(ad157.add ((x3_1).toNat * 7)).block,(ad157.add ((x3_1).toNat * 7)).off + 1,none⟩ = some (.int .i64 ((rd_T88 l0 x3_1).f1.f0)) ∧ w'.cell? ⟨(ad157.add ((x3_1).toNat * 7)).block,(ad157.add ((x3_1).toNat * 7)).off + 2,none⟩ = some (.int .i64 ((rd_T88 l0 x3_1).f1.f1)) ∧ w'.cell? ⟨(ad157.add ((x3_1).toNat * 7)).block,(ad157.add ((x3_1).toNat * 7)).off + 3,none⟩ = some (.int .i64 ((rd_T88 l0 x3_1).f1.f2)) ∧ w'.cell? ⟨(ad157.add ((x3_1).toNat * 7)).block,(ad157.add ((x3_1).toNat * 7)).off + 4,none⟩ = some (.int .i64 ((rd_T88 l0 x3_1).f1.f3)) ∧ w'.cell? ⟨(ad157.add ((x3_1).toNat * 7)).block,(ad157.add ((x3_1).toNat * 7)).off + 5,none⟩ = some (.int .i64 ((rd_T88 l0 x3_1).f1.f4)) ∧ w'.cell? ⟨(ad157.add ((x3_1).toNat * 7)).block,(ad157.add ((x3_1).toNat * 7)).off + 6,none⟩ = some (.int .i64 ((rd_T88 l0 x3_1).f1.f5)) ∧ w'.cell? (ad157.add (((ji13)).toNat * 7)) = some (.int .i64 ((rd_T88 l0 (ji13)).f0)) ∧ w'.cell? ⟨(ad157.add (((ji13)).toNat * 7)).block,(ad157.add (((ji13)).toNat * 7)).off + 1,none⟩ = some (.int .i64 ((rd_T88 l0 (ji13)).f1.f0)) ∧ w'.cell? ⟨(ad157.add (((ji13)).toNat * 7)).block,(ad157.add (((ji13)).toNat * 7)).off + 2,none⟩ = some (.int .i64 ((rd_T88 l0 (ji13)).f1.f1)) ∧ w'.cell? ⟨(ad157.add (((ji13)).toNat * 7)).block,(ad157.add (((ji13)).toNat * 7)).off + 3,none⟩ = some (.int .i64 ((rd_T88 l0 (ji13)).f1.f2)) ∧ w'.cell? ⟨(ad157.add (((ji13)).toNat * 7)).block,(ad157.add (((ji13)).toNat * 7)).off + 4,none⟩ = some (.int .i64 ((rd_T88 l0 (ji13)).f1.f3)) ∧ w'.cell? ⟨(ad157.add (((ji13)).toNat * 7)).block,(ad157.add (((ji13)).toNat * 7)).off + 5,none⟩ = some (.int .i64 ((rd_T88 l0 (ji13)).f1.f4)) ∧ w'.cell? ⟨(ad157.add (((ji13)).toNat * 7)).block,(ad157.add (((ji13)).toNat * 7)).off + 6,none⟩ = some (.int .i64 ((rd_T88 l0 (ji13)).f1.f5)) ∧ w'.cell? (ad157.add ((x3_1).toNat * 7)) = some (.int .i64 ((rd_T88 l0 x3_1).f0)) ∧ w'.cell? ⟨(ad157.add ((x3_1).toNat * 7)).block,(ad157.add ((x3_1).toNat * 7)).off + 1,none⟩ = some (.int .i64 ((rd_T88 l0 x3_1).f1.f0)) ∧ w'.cell? ⟨(ad157.add ((x3_1).toNat * 7)).block,(ad157.add ((x3_1).toNat * 7)).off + 2,none⟩ = some (.int .i64 ((rd_T88 l0 x3_1).f1.f1)) ∧ w'.cell? ⟨(ad157.add ((x3_1).toNat * 7)).block,(ad157.add ((x3_1).toNat * 7)).off + 3,none⟩ = some (.int .i64 ((rd_T88 l0 x3_1).f1.f2)) ∧ w'.cell? ⟨(ad157.add ((x3_1).toNat * 7)).block,(ad157.add ((x3_1).toNat * 7)).off + 4,none⟩ = some (.int .i64 ((rd_T88 l0 x3_1).f1.f3)) ∧ w'.cell? ⟨(ad157.add ((x3_1).toNat * 7)).block,(ad157.add ((x3_1).toNat * 7)).off + 5,none⟩ = some (.int .i64 ((rd_T88 l0 x3_1).f1.f4)) ∧ w'.cell? ⟨(ad157.add ((x3_1).toNat * 7)).block,(ad157.add ((x3_1).toNat * 7)).off + 6,none⟩ = some (.int .i64 ((rd_T88 l0 x3_1).f1.f5))) (ds := []) #[F,F,F,F,F,F,F,F,F,F,F,F,F,F,F,F,F,F,F,F,F,F,F,F,F,F,F,F,F,F,F,F,F,F,F,F,F,F,F,F,F,F,F] (by kernel_rfl) rfl rfl ⟨((HB.out.cell (bl_ w _ hw157_0)).trans hw157_0),((HB.out.cell (bl_ w _ hw157_1)).trans hw157_1),((HB.out.cell (bl_ w _ hw157_2)).trans hw157_2),((HB.out.cell (bl_ w _ hw157_3)).trans hw157_3),((HB.out.cell (bl_ w _ hw157_4)).trans hw157_4),((HB.out.cell (bl_ w _ hw157_5)).trans hw157_5),((HB.out.cell (bl_ w _ hw157_6)).trans hw157_6),((HB.out.cell (bl_ w _ hw159_0)).trans hw159_0),((HB.out.cell (bl_ w _ hw159_1)).trans hw159_1),((HB.out.cell (bl_ w _ hw159_2)).trans hw159_2),((HB.out.cell (bl_ w _ hw159_3)).trans hw159_3),((HB.out.cell (bl_ w _ hw159_4)).trans hw159_4),((HB.out.cell (bl_ w _ hw159_5)).trans hw159_5),((HB.out.cell (bl_ w _ hw159_6)).trans hw159_6),((HB.out.cell (bl_ w _ hw161_0)).trans hw161_0),((HB.out.cell (bl_ w _ hw161_1)).trans hw161_1),((HB.out.cell (bl_ w _ hw161_2)).trans hw161_2),((HB.out.cell (bl_ w _ hw161_3)).trans hw161_3),((HB.out.cell (bl_ w _ hw161_4)).trans hw161_4),((HB.out.cell (bl_ w _ hw161_5)).trans hw161_5),((HB.out.cell (bl_ w _ hw161_6)).trans hw161_6),((HB.out.cell (bl_ w _ hw162_0)).trans hw162_0),((HB.out.cell (bl_ w _ hw162_1)).trans hw162_1),((HB.out.cell (bl_ w _ hw162_2)).trans hw162_2),((HB.out.cell (bl_ w _ hw162_3)).trans hw162_3),((HB.out.cell (bl_ w _ hw162_4)).trans hw162_4),((HB.out.cell (bl_ w _ hw162_5)).trans hw162_5),((HB.out.cell (bl_ w _ hw162_6)).trans hw162_6),((HB.out.cell (bl_ w _ hw163_0)).trans hw163_0),((HB.out.cell (bl_ w _ hw163_1)).trans hw163_1),((HB.out.cell (bl_ w _ hw163_2)).trans hw163_2),((HB.out.cell (bl_ w _ hw163_3)).trans hw163_3),((HB.out.cell (bl_ w _ hw163_4)).trans hw163_4),((HB.out.cell (bl_ w _ hw163_5)).trans hw163_5),((HB.out.cell (bl_ w _ hw163_6)).trans hw163_6)⟩ (fun hHeld => ?_); refine with_tabW spec_BucketsOK.tab6 spec_BucketsOK.bits6 (fun HT_ HW_ => ?_)
             generalize wr.drew = w19 at HB hx157_0 hx157_1 hx157_2 hx157_3 hx157_4 hx157_5 hx157_6 hx159_0 hx159_1 hx159_2 hx159_3 hx159_4 hx159_5 hx159_6 hx161_0 hx161_1 hx161_2 hx161_3 hx161_4 hx161_5 hx161_6 hx162_0 hx162_1 hx162_2 hx162_3 hx162_4 hx162_5 hx162_6 hx163_0 hx163_1 hx163_2 hx163_3 hx163_4 hx163_5 hx163_6 hHeld ⊢
             refine pure_ (i:=0) (N:=some 13) (v:=?_) (a':=?_) #[T,F,F,F,F,F,F,F,F,F,F,F,F,F,F,F,F,F,F,F,F,F,F,F,F,F,F,F,F,F,F,F,F,F,F,F,F,F,F,F,F,F,F] rfl rfl (any_of HT_.out (by kernel_rfl)) (fun _ _ _ h => h) (Or.inl ⟨by rfl,?_⟩) ?_ ?_
             rotate_left
             ·intro w'
              go_simp
              with_reducible rfl
             rotate_left
             ·simp only [Act.put,setIfInBounds_toArray,set_cons_zero,set_cons_succ,i64_w,i32_w]
              rfl
             refine pure_ (i:=1) (N:=some 14) (v:=?_) (a':=?_) #[T,T,F,F,F,F,F,F,F,F,F,F,F,F,F,F,F,F,F,F,F,F,F,F,F,F,F,F,F,F,F,F,F,F,F,F,F,F,F,F,F,F,F] rfl rfl (any_of HT_.out (by kernel_rfl)) (fun _ _ _ h => h) (Or.inl ⟨by rfl,?_⟩) ?_ ?_
             rotate_left
             ·intro w'
              go_simp
              with_reducible rfl
             rotate_left
             ·simp only [Act.put,setIfInBounds_toArray,set_cons_zero,set_cons_succ,i64_w,i32_w]
              rfl
             refine pure_ (i:=2) (N:=some 15) (v:=?_) (a':=?_) #[T,T,T,F,F,F,F,F,F,F,F,F,F,F,F,F,F,F,F,F,F,F,F,F,F,F,F,F,F,F,F,F,F,F,F,F,F,F,F,F,F,F,F] rfl rfl (any_of HT_.out (by kernel_rfl)) (fun _ _ _ h => h) (Or.inl ⟨by rfl,?_⟩) ?_ ?_
             rotate_left
             ·intro w'
              go_simp
              with_reducible rfl
             rotate_left
             ·simp only [Act.put,setIfInBounds_toArray,set_cons_zero,set_cons_succ,i64_w,i32_w]
              rfl
             refine pure_ (i:=3) (N:=some 16) (v:=?_) (a':=?_) #[T,T,T,T,F,F,F,F,F,F,F,F,F,F,F,F,F,F,F,F,F,F,F,F,F,F,F,F,F,F,F,F,F,F,F,F,F,F,F,F,F,F,F] rfl rfl (any_of HT_.out (by kernel_rfl)) (fun _ _ _ h => h) (Or.inl ⟨by rfl,?_⟩) ?_ ?_
             rotate_left
             ·intro w'
              go_simp
              with_reducible rfl
             rotate_left
             ·simp only [Act.put,setIfInBounds_toArray,set_cons_zero,set_cons_succ,i64_w,i32_w]
              rfl
             refine take_ (i:=4) (N:=some 17) (v:=?_) (a':=?_) #[T,T,T,T,T,F,F,F,F,F,F,F,F,F,F,F,F,F,F,F,F,F,F,F,F,F,F,F,F,F,F,F,F,F,F,F,F,F,F,F,F,F,F] rfl rfl (take_ofW HT_.out HW_.out (by kernel_rfl)) (fun _ _ _ h => h) (Or.inl ⟨by rfl,?_⟩) hHeld ?_ ?_
             rotate_left
             ·rintro w' ⟨s0,s1,s2,s3,s4,s5,s6,s7,s8,s9,s10,s11,s12,s13,s14,s15,s16,s17,s18,s19,s20,s21,s22,s23,s24,s25,s26,s27,s28,s29,s30,s31,s32,s33,s34⟩
              go_simp
              with_reducible rfl
             rotate_left
             ·simp only [Act.put,setIfInBounds_toArray,set_cons_zero,set_cons_succ,i64_w,i32_w]
              rfl
             refine one_ (i:=5) (N:=some 18) #[T,T,T,T,T,T,F,F,F,F,F,F,F,F,F,F,F,F,F,F,F,F,F,F,F,F,F,F,F,F,F,F,F,F,F,F,F,F,F,F,F,F,F] rfl rfl (one_of HT_.out (by kernel_rfl)) (by decide) (fun K hK => ?_)
             refine goes_ Tryd.func46 (by kernel_rfl) rfl #[.int .i64 ((rd_T88 l0 x3_1).f0),.int .i64 0,.int .i64 99999] (by rfl) rfl rfl (by (try simp only [List.map_toArray,List.map_cons,List.map_nil]); first | done | rfl | (simp only [List.length_drop,List.length_take]; rfl)) ?_
             with_reducible refine (spec_l01In.calls ((rd_T88 l0 x3_1).f0) 0 99999 true _ A5.out).mono ?_
             rintro e w' ⟨rfl,⟨nd,rfl⟩⟩
             refine ⟨_,rfl,?_⟩
             refine hK.out _ _ ⟨((HB.out.cell (bl_ w _ hw157_0)).trans hw157_0),((HB.out.cell (bl_ w _ hw157_1)).trans hw157_1),((HB.out.cell (bl_ w _ hw157_2)).trans hw157_2),((HB.out.cell (bl_ w _ hw157_3)).trans hw157_3),((HB.out.cell (bl_ w _ hw157_4)).trans hw157_4),((HB.out.cell (bl_ w _ hw157_5)).trans hw157_5),((HB.out.cell (bl_ w _ hw157_6)).trans hw157_6),((HB.out.cell (bl_ w _ hw159_0)).trans hw159_0),((HB.out.cell (bl_ w _ hw159_1)).trans hw159_1),((HB.out.cell (bl_ w _ hw159_2)).trans hw159_2),((HB.out.cell (bl_ w _ hw159_3)).trans hw159_3),((HB.out.cell (bl_ w _ hw159_4)).trans hw159_4),((HB.out.cell (bl_ w _ hw159_5)).trans hw159_5),((HB.out.cell (bl_ w _ hw159_6)).trans hw159_6),((HB.out.cell (bl_ w _ hw161_0)).trans hw161_0),((HB.out.cell (bl_ w _ hw161_1)).trans hw161_1),((HB.out.cell (bl_ w _ hw161_2)).trans hw161_2),((HB.out.cell (bl_ w _ hw161_3)).trans hw161_3),((HB.out.cell (bl_ w _ hw161_4)).trans hw161_4),((HB.out.cell (bl_ w _ hw161_5)).trans hw161_5),((HB.out.cell (bl_ w _ hw161_6)).trans hw161_6),((HB.out.cell (bl_ w _ hw162_0)).trans hw162_0),((HB.out.cell (bl_ w _ hw162_1)).trans hw162_1),((HB.out.cell (bl_ w _ hw162_2)).trans hw162_2),((HB.out.cell (bl_ w _ hw162_3)).trans hw162_3),((HB.out.cell (bl_ w _ hw162_4)).trans hw162_4),((HB.out.cell (bl_ w _ hw162_5)).trans hw162_5),((HB.out.cell (bl_ w _ hw162_6)).trans hw162_6),((HB.out.cell (bl_ w _ hw163_0)).trans hw163_0),((HB.out.cell (bl_ w _ hw163_1)).trans hw163_1),((HB.out.cell (bl_ w _ hw163_2)).trans hw163_2),((HB.out.cell (bl_ w _ hw163_3)).trans hw163_3),((HB.out.cell (bl_ w _ hw163_4)).trans hw163_4),((HB.out.cell (bl_ w _ hw163_5)).trans hw163_5),((HB.out.cell (bl_ w _ hw163_6)).trans hw163_6)⟩ (fun hHeld => ?_)
             clear hK K
             refine norm_ (a':=?_) ?_ ?_
             rotate_left
             ·show Act.put _ (some 18) _ = _
              simp only [Act.put,setIfInBounds_toArray,set_cons_zero,set_cons_succ,i64_w,i32_w]
              rfl
             refine pure_ (i:=6) (N:=some 19) (v:=?_) (a':=?_) #[T,T,T,T,T,T,T,F,F,F,F,F,F,F,F,F,F,F,F,F,F,F,F,F,F,F,F,F,F,F,F,F,F,F,F,F,F,F,F,F,F,F,F] rfl rfl (any_of HT_.out (by kernel_rfl)) (fun _ _ _ h => h) (Or.inl ⟨by rfl,?_⟩) ?_ ?_
             rotate_left
             ·intro w'
              go_simp
              with_reducible rfl
             rotate_left
             ·simp only [Act.put,setIfInBounds_toArray,set_cons_zero,set_cons_succ,i64_w,i32_w]
              rfl
             refine pure_ (i:=7) (N:=some 20) (v:=?_) (a':=?_) #[T,T,T,T,T,T,T,T,F,F,F,F,F,F,F,F,F,F,F,F,F,F,F,F,F,F,F,F,F,F,F,F,F,F,F,F,F,F,F,F,F,F,F] rfl rfl (any_of HT_.out (by kernel_rfl)) (fun _ _ _ h => h) (Or.inl ⟨by rfl,?_⟩) ?_ ?_
             rotate_left
             ·intro w'
              go_simp
              with_reducible rfl
             rotate_left
             ·simp only [Act.put,setIfInBounds_toArray,set_cons_zero,set_cons_succ,i64_w,i32_w]
              rfl
             refine pure_ (i:=8) (N:=some 21) (v:=?_) (a':=?_) #[T,T,T,T,T,T,T,T,T,F,F,F,F,F,F,F,F,F,F,F,F,F,F,F,F,F,F,F,F,F,F,F,F,F,F,F,F,F,F,F,F,F,F] rfl rfl (any_of HT_.out (by kernel_rfl)) (fun _ _ _ h => h) (Or.inl ⟨by rfl,?_⟩) ?_ ?_
             rotate_left
             ·intro w'
              go_simp
              with_reducible rfl
             rotate_left
             ·simp only [Act.put,setIfInBounds_toArray,set_cons_zero,set_cons_succ,i64_w,i32_w]
              rfl
             refine pure_ (i:=9) (N:=some 22) (v:=?_) (a':=?_) #[T,T,T,T,T,T,T,T,T,T,F,F,F,F,F,F,F,F,F,F,F,F,F,F,F,F,F,F,F,F,F,F,F,F,F,F,F,F,F,F,F,F,F] rfl rfl (any_of HT_.out (by kernel_rfl)) (fun _ _ _ h => h) (Or.inl ⟨by rfl,?_⟩) ?_ ?_
             rotate_left
             ·intro w'
              go_simp
              with_reducible rfl
             rotate_left
             ·simp only [Act.put,setIfInBounds_toArray,set_cons_zero,set_cons_succ,i64_w,i32_w]
              rfl
             refine pure_ (i:=10) (N:=some 23) (v:=?_) (a':=?_) #[T,T,T,T,T,T,T,T,T,T,T,F,F,F,F,F,F,F,F,F,F,F,F,F,F,F,F,F,F,F,F,F,F,F,F,F,F,F,F,F,F,F,F] rfl rfl (any_of HT_.out (by kernel_rfl)) (fun _ _ _ h => h) (Or.inl ⟨by rfl,?_⟩) ?_ ?_
             rotate_left
             ·intro w'
              go_simp
              with_reducible rfl
             rotate_left
             ·simp only [Act.put,setIfInBounds_toArray,set_cons_zero,set_cons_succ,i64_w,i32_w]
              rfl
             refine pure_ (i:=11) (N:=some 24) (v:=?_) (a':=?_) #[T,T,T,T,T,T,T,T,T,T,T,T,F,F,F,F,F,F,F,F,F,F,F,F,F,F,F,F,F,F,F,F,F,F,F,F,F,F,F,F,F,F,F] rfl rfl (any_of HT_.out (by kernel_rfl)) (fun _ _ _ h => h) (Or.inl ⟨by rfl,?_⟩) ?_ ?_
             rotate_left
             ·intro w'
              go_simp
              with_reducible rfl
             rotate_left
             ·simp only [Act.put,setIfInBounds_toArray,set_cons_zero,set_cons_succ,i64_w,i32_w]
              rfl
             refine take_ (i:=12) (N:=some 25) (v:=?_) (a':=?_) #[T,T,T,T,T,T,T,T,T,T,T,T,T,F,F,F,F,F,F,F,F,F,F,F,F,F,F,F,F,F,F,F,F,F,F,F,F,F,F,F,F,F,F] rfl rfl (take_ofW HT_.out HW_.out (by kernel_rfl)) (fun _ _ _ h => h) (Or.inl ⟨by rfl,?_⟩) hHeld ?_ ?_
             rotate_left
             ·rintro w' ⟨s0,s1,s2,s3,s4,s5,s6,s7,s8,s9,s10,s11,s12,s13,s14,s15,s16,s17,s18,s19,s20,s21,s22,s23,s24,s25,s26,s27,s28,s29,s30,s31,s32,s33,s34⟩
              go_simp
              with_reducible rfl
             rotate_left
             ·simp only [Act.put,setIfInBounds_toArray,set_cons_zero,set_cons_succ,i64_w,i32_w]
              rfl
             refine one_ (i:=13) (N:=some 26) #[T,T,T,T,T,T,T,T,T,T,T,T,T,T,F,F,F,F,F,F,F,F,F,F,F,F,F,F,F,F,F,F,F,F,F,F,F,F,F,F,F,F,F] rfl rfl (one_of HT_.out (by kernel_rfl)) (by decide) (fun K hK => ?_)
             refine goes_ Tryd.func101 (by kernel_rfl) rfl #[.agg #[.int .i64 ((rd_T88 l0 x3_1).f1.f0),.int .i64 ((rd_T88 l0 x3_1).f1.f1),.int .i64 ((rd_T88 l0 x3_1).f1.f2),.int .i64 ((rd_T88 l0 x3_1).f1.f3),.int .i64 ((rd_T88 l0 x3_1).f1.f4),.int .i64 ((rd_T88 l0 x3_1).f1.f5)]] (by rfl) rfl rfl (by (try simp only [List.map_toArray,List.map_cons,List.map_nil]); first | done | rfl | (simp only [List.length_drop,List.length_take]; rfl)) ?_
             with_reducible refine (spec_AggOK.calls ((rd_T88 l0 x3_1).f1.f0) ((rd_T88 l0 x3_1).f1.f1) ((rd_T88 l0 x3_1).f1.f2) ((rd_T88 l0 x3_1).f1.f3) ((rd_T88 l0 x3_1).f1.f4) ((rd_T88 l0 x3_1).f1.f5) true _ A7.out).mono ?_
             rintro e w20 ⟨rfl,hb⟩
             refine ⟨_,rfl,?_⟩
             have n0_ := Aside0.mk (below_step (by repeat (first | (with_reducible first | exact HB.out | apply below_alloc | apply pw_below_drewN | apply below_drew1) | exact HB.out)) hb)
             clear HB
             have HB := n0_
             clear n0_
             (try clear hb)
             (try clear hb2)
             (try clear hk)
             (try clear hi)
             refine hK.out _ _ ⟨((HB.out.cell (bl_ w _ hw157_0)).trans hw157_0),((HB.out.cell (bl_ w _ hw157_1)).trans hw157_1),((HB.out.cell (bl_ w _ hw157_2)).trans hw157_2),((HB.out.cell (bl_ w _ hw157_3)).trans hw157_3),((HB.out.cell (bl_ w _ hw157_4)).trans hw157_4),((HB.out.cell (bl_ w _ hw157_5)).trans hw157_5),((HB.out.cell (bl_ w _ hw157_6)).trans hw157_6),((HB.out.cell (bl_ w _ hw159_0)).trans hw159_0),((HB.out.cell (bl_ w _ hw159_1)).trans hw159_1),((HB.out.cell (bl_ w _ hw159_2)).trans hw159_2),((HB.out.cell (bl_ w _ hw159_3)).trans hw159_3),((HB.out.cell (bl_ w _ hw159_4)).trans hw159_4),((HB.out.cell (bl_ w _ hw159_5)).trans hw159_5),((HB.out.cell (bl_ w _ hw159_6)).trans hw159_6),((HB.out.cell (bl_ w _ hw161_0)).trans hw161_0),((HB.out.cell (bl_ w _ hw161_1)).trans hw161_1),((HB.out.cell (bl_ w _ hw161_2)).trans hw161_2),((HB.out.cell (bl_ w _ hw161_3)).trans hw161_3),((HB.out.cell (bl_ w _ hw161_4)).trans hw161_4),((HB.out.cell (bl_ w _ hw161_5)).trans hw161_5),((HB.out.cell (bl_ w _ hw161_6)).trans hw161_6),((HB.out.cell (bl_ w _ hw162_0)).trans hw162_0),((HB.out.cell (bl_ w _ hw162_1)).trans hw162_1),((HB.out.cell (bl_ w _ hw162_2)).trans hw162_2),((HB.out.cell (bl_ w _ hw162_3)).trans hw162_3),((HB.out.cell (bl_ w _ hw162_4)).trans hw162_4),((HB.out.cell (bl_ w _ hw162_5)).trans hw162_5),((HB.out.cell (bl_ w _ hw162_6)).trans hw162_6),((HB.out.cell (bl_ w _ hw163_0)).trans hw163_0),((HB.out.cell (bl_ w _ hw163_1)).trans hw163_1),((HB.out.cell (bl_ w _ hw163_2)).trans hw163_2),((HB.out.cell (bl_ w _ hw163_3)).trans hw163_3),((HB.out.cell (bl_ w _ hw163_4)).trans hw163_4),((HB.out.cell (bl_ w _ hw163_5)).trans hw163_5),((HB.out.cell (bl_ w _ hw163_6)).trans hw163_6)⟩ (fun hHeld => ?_)
             clear hK K
             refine norm_ (a':=?_) ?_ ?_
             rotate_left
             ·show Act.put _ (some 26) _ = _
              simp only [Act.put,setIfInBounds_toArray,set_cons_zero,set_cons_succ,i64_w,i32_w]
              rfl
             refine pure_ (i:=14) (N:=some 27) (v:=?_) (a':=?_) #[T,T,T,T,T,T,T,T,T,T,T,T,T,T,T,F,F,F,F,F,F,F,F,F,F,F,F,F,F,F,F,F,F,F,F,F,F,F,F,F,F,F,F] rfl rfl (any_of HT_.out (by kernel_rfl)) (fun _ _ _ h => h) (Or.inl ⟨by rfl,?_⟩) ?_ ?_
             rotate_left
             ·intro w'
              go_simp
              with_reducible rfl
             rotate_left
             ·simp only [Act.put,setIfInBounds_toArray,set_cons_zero,set_cons_succ,i64_w,i32_w]
              rfl
             refine pure_ (i:=15) (N:=some 28) (v:=?_) (a':=?_) #[T,T,T,T,T,T,T,T,T,T,T,T,T,T,T,T,F,F,F,F,F,F,F,F,F,F,F,F,F,F,F,F,F,F,F,F,F,F,F,F,F,F,F] rfl rfl (any_of HT_.out (by kernel_rfl)) (fun _ _ _ h => h) (Or.inl ⟨by rfl,?_⟩) ?_ ?_
             rotate_left
             ·intro w'
              go_simp
              with_reducible rfl
             rotate_left
             ·simp only [Act.put,setIfInBounds_toArray,set_cons_zero,set_cons_succ,i64_w,i32_w]
              rfl
             refine pure_ (i:=16) (N:=some 29) (v:=?_) (a':=?_) #[T,T,T,T,T,T,T,T,T,T,T,T,T,T,T,T,T,F,F,F,F,F,F,F,F,F,F,F,F,F,F,F,F,F,F,F,F,F,F,F,F,F,F] rfl rfl (any_of HT_.out (by kernel_rfl)) (fun _ _ _ h => h) (Or.inl ⟨by rfl,?_⟩) ?_ ?_
             rotate_left
             ·intro w'
              go_simp
              with_reducible rfl
             rotate_left
             ·simp only [Act.put,setIfInBounds_toArray,set_cons_zero,set_cons_succ,i64_w,i32_w]
              rfl
             refine pure_ (i:=17) (N:=some 30) (v:=?_) (a':=?_) #[T,T,T,T,T,T,T,T,T,T,T,T,T,T,T,T,T,T,F,F,F,F,F,F,F,F,F,F,F,F,F,F,F,F,F,F,F,F,F,F,F,F,F] rfl rfl (any_of HT_.out (by kernel_rfl)) (fun _ _ _ h => h) (Or.inl ⟨by rfl,?_⟩) ?_ ?_
             rotate_left
             ·intro w'
              go_simp
              with_reducible rfl
             rotate_left
             ·simp only [Act.put,setIfInBounds_toArray,set_cons_zero,set_cons_succ,i64_w,i32_w]
              rfl
             refine pure_ (i:=18) (N:=some 31) (v:=?_) (a':=?_) #[T,T,T,T,T,T,T,T,T,T,T,T,T,T,T,T,T,T,T,F,F,F,F,F,F,F,F,F,F,F,F,F,F,F,F,F,F,F,F,F,F,F,F] rfl rfl (any_of HT_.out (by kernel_rfl)) (fun _ _ _ h => h) (Or.inl ⟨by rfl,?_⟩) ?_ ?_
             rotate_left
             ·intro w'
              go_simp
              with_reducible rfl
             rotate_left
             ·simp only [Act.put,setIfInBounds_toArray,set_cons_zero,set_cons_succ,i64_w,i32_w]
              rfl
             refine pure_ (i:=19) (N:=some 32) (v:=?_) (a':=?_) #[T,T,T,T,T,T,T,T,T,T,T,T,T,T,T,T,T,T,T,T,F,F,F,F,F,F,F,F,F,F,F,F,F,F,F,F,F,F,F,F,F,F,F] rfl rfl (any_of HT_.out (by kernel_rfl)) (fun _ _ _ h => h) (Or.inl ⟨by rfl,?_⟩) ?_ ?_
             rotate_left
             ·intro w'
              go_simp
              with_reducible rfl
             rotate_left
             ·simp only [Act.put,setIfInBounds_toArray,set_cons_zero,set_cons_succ,i64_w,i32_w]
              rfl
             refine pure_ (i:=20) (N:=some 33) (v:=?_) (a':=?_) #[T,T,T,T,T,T,T,T,T,T,T,T,T,T,T,T,T,T,T,T,T,F,F,F,F,F,F,F,F,F,F,F,F,F,F,F,F,F,F,F,F,F,F] rfl rfl (any_of HT_.out (by kernel_rfl)) (fun _ _ _ h => h) (Or.inl ⟨by rfl,?_⟩) ?_ ?_
             rotate_left
             ·intro w'
              go_simp
              with_reducible rfl
             rotate_left
             ·simp only [Act.put,setIfInBounds_toArray,set_cons_zero,set_cons_succ,i64_w,i32_w]
              rfl
             refine pure_ (i:=21) (N:=some 34) (v:=?_) (a':=?_) #[T,T,T,T,T,T,T,T,T,T,T,T,T,T,T,T,T,T,T,T,T,T,F,F,F,F,F,F,F,F,F,F,F,F,F,F,F,F,F,F,F,F,F] rfl rfl (any_of HT_.out (by kernel_rfl)) (fun _ _ _ h => h) (Or.inl ⟨by rfl,?_⟩) ?_ ?_
             rotate_left
             ·intro w'
              go_simp
              with_reducible rfl
             rotate_left
             ·simp only [Act.put,setIfInBounds_toArray,set_cons_zero,set_cons_succ,i64_w,i32_w]
              rfl
             refine take_ (i:=22) (N:=some 35) (v:=?_) (a':=?_) #[T,T,T,T,T,T,T,T,T,T,T,T,T,T,T,T,T,T,T,T,T,T,T,F,F,F,F,F,F,F,F,F,F,F,F,F,F,F,F,F,F,F,F] rfl rfl (take_ofW HT_.out HW_.out (by kernel_rfl)) (fun _ _ _ h => h) (Or.inl ⟨by rfl,?_⟩) hHeld ?_ ?_
             rotate_left
             ·rintro w' ⟨s0,s1,s2,s3,s4,s5,s6,s7,s8,s9,s10,s11,s12,s13,s14,s15,s16,s17,s18,s19,s20,s21,s22,s23,s24,s25,s26,s27,s28,s29,s30,s31,s32,s33,s34⟩
              go_simp
              with_reducible rfl
             rotate_left
             ·simp only [Act.put,setIfInBounds_toArray,set_cons_zero,set_cons_succ,i64_w,i32_w]
              rfl
             refine pure_ (i:=23) (N:=some 36) (v:=?_) (a':=?_) #[T,T,T,T,T,T,T,T,T,T,T,T,T,T,T,T,T,T,T,T,T,T,T,T,F,F,F,F,F,F,F,F,F,F,F,F,F,F,F,F,F,F,F] rfl rfl (any_of HT_.out (by kernel_rfl)) (fun _ _ _ h => h) (Or.inl ⟨by rfl,?_⟩) ?_ ?_
             rotate_left
             ·intro w'
              go_simp
              with_reducible rfl
             rotate_left
             ·simp only [Act.put,setIfInBounds_toArray,set_cons_zero,set_cons_succ,i64_w,i32_w]
              rfl
             refine pure_ (i:=24) (N:=some 37) (v:=?_) (a':=?_) #[T,T,T,T,T,T,T,T,T,T,T,T,T,T,T,T,T,T,T,T,T,T,T,T,T,F,F,F,F,F,F,F,F,F,F,F,F,F,F,F,F,F,F] rfl rfl (any_of HT_.out (by kernel_rfl)) (fun _ _ _ h => h) (Or.inl ⟨by rfl,?_⟩) ?_ ?_
             rotate_left
             ·intro w'
              go_simp
              with_reducible rfl
             rotate_left
             ·simp only [Act.put,setIfInBounds_toArray,set_cons_zero,set_cons_succ,i64_w,i32_w]
              rfl
             refine pure_ (i:=25) (N:=some 38) (v:=?_) (a':=?_) #[T,T,T,T,T,T,T,T,T,T,T,T,T,T,T,T,T,T,T,T,T,T,T,T,T,T,F,F,F,F,F,F,F,F,F,F,F,F,F,F,F,F,F] rfl rfl (any_of HT_.out (by kernel_rfl)) (fun _ _ _ h => h) (Or.inl ⟨by rfl,?_⟩) ?_ ?_
             rotate_left
             ·intro w'
              go_simp
              with_reducible rfl
             rotate_left
             ·simp only [Act.put,setIfInBounds_toArray,set_cons_zero,set_cons_succ,i64_w,i32_w]
              rfl
             refine pure_ (i:=26) (N:=some 39) (v:=?_) (a':=?_) #[T,T,T,T,T,T,T,T,T,T,T,T,T,T,T,T,T,T,T,T,T,T,T,T,T,T,T,F,F,F,F,F,F,F,F,F,F,F,F,F,F,F,F] rfl rfl (any_of HT_.out (by kernel_rfl)) (fun _ _ _ h => h) (Or.inl ⟨by rfl,?_⟩) ?_ ?_
             rotate_left
             ·intro w'
              go_simp
              with_reducible rfl
             rotate_left
             ·simp only [Act.put,setIfInBounds_toArray,set_cons_zero,set_cons_succ,i64_w,i32_w]
              rfl
             refine pure_ (i:=27) (N:=some 40) (v:=?_) (a':=?_) #[T,T,T,T,T,T,T,T,T,T,T,T,T,T,T,T,T,T,T,T,T,T,T,T,T,T,T,T,F,F,F,F,F,F,F,F,F,F,F,F,F,F,F] rfl rfl (any_of HT_.out (by kernel_rfl)) (fun _ _ _ h => h) (Or.inl ⟨by rfl,?_⟩) ?_ ?_
             rotate_left
             ·intro w'
              go_simp
              with_reducible rfl
             rotate_left
             ·simp only [Act.put,setIfInBounds_toArray,set_cons_zero,set_cons_succ,i64_w,i32_w]
              rfl
             refine pure_ (i:=28) (N:=some 41) (v:=?_) (a':=?_) #[T,T,T,T,T,T,T,T,T,T,T,T,T,T,T,T,T,T,T,T,T,T,T,T,T,T,T,T,T,F,F,F,F,F,F,F,F,F,F,F,F,F,F] rfl rfl (any_of HT_.out (by kernel_rfl)) (fun _ _ _ h => h) (Or.inl ⟨by rfl,?_⟩) ?_ ?_
             rotate_left
             ·intro w'
              go_simp
              with_reducible rfl
             rotate_left
             ·simp only [Act.put,setIfInBounds_toArray,set_cons_zero,set_cons_succ,i64_w,i32_w]
              rfl
             refine pure_ (i:=29) (N:=some 42) (v:=?_) (a':=?_) #[T,T,T,T,T,T,T,T,T,T,T,T,T,T,T,T,T,T,T,T,T,T,T,T,T,T,T,T,T,T,F,F,F,F,F,F,F,F,F,F,F,F,F] rfl rfl (any_of HT_.out (by kernel_rfl)) (fun _ _ _ h => h) (Or.inl ⟨by rfl,?_⟩) ?_ ?_
             rotate_left
             ·intro w'
              go_simp
              with_reducible rfl
             rotate_left
             ·simp only [Act.put,setIfInBounds_toArray,set_cons_zero,set_cons_succ,i64_w,i32_w]
              rfl
             refine pure_ (i:=30) (N:=some 43) (v:=?_) (a':=?_) #[T,T,T,T,T,T,T,T,T,T,T,T,T,T,T,T,T,T,T,T,T,T,T,T,T,T,T,T,T,T,T,F,F,F,F,F,F,F,F,F,F,F,F] rfl rfl (any_of HT_.out (by kernel_rfl)) (fun _ _ _ h => h) (Or.inl ⟨by rfl,?_⟩) ?_ ?_
             rotate_left
             ·intro w'
              go_simp
              with_reducible rfl
             rotate_left
             ·simp only [Act.put,setIfInBounds_toArray,set_cons_zero,set_cons_succ,i64_w,i32_w]
              rfl
             refine pure_ (i:=31) (N:=some 44) (v:=?_) (a':=?_) #[T,T,T,T,T,T,T,T,T,T,T,T,T,T,T,T,T,T,T,T,T,T,T,T,T,T,T,T,T,T,T,T,F,F,F,F,F,F,F,F,F,F,F] rfl rfl (any_of HT_.out (by kernel_rfl)) (fun _ _ _ h => h) (Or.inl ⟨by rfl,?_⟩) ?_ ?_
             rotate_left
             ·intro w'
              go_simp
              with_reducible rfl
             rotate_left
             ·simp only [Act.put,setIfInBounds_toArray,set_cons_zero,set_cons_succ,i64_w,i32_w]
              rfl
             refine pure_ (i:=32) (N:=some 45) (v:=?_) (a':=?_) #[T,T,T,T,T,T,T,T,T,T,T,T,T,T,T,T,T,T,T,T,T,T,T,T,T,T,T,T,T,T,T,T,T,F,F,F,F,F,F,F,F,F,F] rfl rfl (any_of HT_.out (by kernel_rfl)) (fun _ _ _ h => h) (Or.inl ⟨by rfl,?_⟩) ?_ ?_
             rotate_left
             ·intro w'
              go_simp
              with_reducible rfl
             rotate_left
             ·simp only [Act.put,setIfInBounds_toArray,set_cons_zero,set_cons_succ,i64_w,i32_w]
              rfl
             refine pure_ (i:=33) (N:=some 46) (v:=?_) (a':=?_) #[T,T,T,T,T,T,T,T,T,T,T,T,T,T,T,T,T,T,T,T,T,T,T,T,T,T,T,T,T,T,T,T,T,T,F,F,F,F,F,F,F,F,F] rfl rfl (any_of HT_.out (by kernel_rfl)) (fun _ _ _ h => h) (Or.inl ⟨by rfl,?_⟩) ?_ ?_
             rotate_left
             ·intro w'
              go_simp
              with_reducible rfl
             rotate_left
             ·simp only [Act.put,setIfInBounds_toArray,set_cons_zero,set_cons_succ,i64_w,i32_w]
              rfl
             refine pure_ (i:=35) (N:=some 48) (v:=?_) (a':=?_) #[T,T,T,T,T,T,T,T,T,T,T,T,T,T,T,T,T,T,T,T,T,T,T,T,T,T,T,T,T,T,T,T,T,T,F,T,F,F,F,F,F,F,F] rfl rfl (any_of HT_.out (by kernel_rfl)) (fun _ _ _ h => h) (Or.inl ⟨by rfl,?_⟩) ?_ ?_
             rotate_left
             ·intro w'
              go_simp
              with_reducible rfl
             rotate_left
             ·simp only [Act.put,setIfInBounds_toArray,set_cons_zero,set_cons_succ,i64_w,i32_w]
              rfl
             refine pure_ (i:=36) (N:=some 49) (v:=?_) (a':=?_) #[T,T,T,T,T,T,T,T,T,T,T,T,T,T,T,T,T,T,T,T,T,T,T,T,T,T,T,T,T,T,T,T,T,T,F,T,T,F,F,F,F,F,F] rfl rfl (any_of HT_.out (by kernel_rfl)) (fun _ _ _ h => h) (Or.inl ⟨by rfl,?_⟩) ?_ ?_
             rotate_left
             ·intro w'
              go_simp
              with_reducible rfl
             rotate_left
             ·simp only [Act.put,setIfInBounds_toArray,set_cons_zero,set_cons_succ,i64_w,i32_w]
              rfl
             refine pure_ (i:=37) (N:=some 50) (v:=?_) (a':=?_) #[T,T,T,T,T,T,T,T,T,T,T,T,T,T,T,T,T,T,T,T,T,T,T,T,T,T,T,T,T,T,T,T,T,T,F,T,T,T,F,F,F,F,F] rfl rfl (any_of HT_.out (by kernel_rfl)) (fun _ _ _ h => h) (Or.inl ⟨by rfl,?_⟩) ?_ ?_
             rotate_left
             ·intro w'
              go_simp
              with_reducible rfl
             rotate_left
             ·simp only [Act.put,setIfInBounds_toArray,set_cons_zero,set_cons_succ,i64_w,i32_w]
              rfl
             refine pure_ (i:=38) (N:=some 51) (v:=?_) (a':=?_) #[T,T,T,T,T,T,T,T,T,T,T,T,T,T,T,T,T,T,T,T,T,T,T,T,T,T,T,T,T,T,T,T,T,T,F,T,T,T,T,F,F,F,F] rfl rfl (any_of HT_.out (by kernel_rfl)) (fun _ _ _ h => h) (Or.inl ⟨by rfl,?_⟩) ?_ ?_
             rotate_left
             ·intro w'
              go_simp
              with_reducible rfl
             rotate_left
             ·simp only [Act.put,setIfInBounds_toArray,set_cons_zero,set_cons_succ,i64_w,i32_w]
              rfl
             refine take_ (i:=34) (N:=some 47) (v:=?_) (a':=?_) #[T,T,T,T,T,T,T,T,T,T,T,T,T,T,T,T,T,T,T,T,T,T,T,T,T,T,T,T,T,T,T,T,T,T,T,T,T,T,T,F,F,F,F] rfl rfl (take_ofW HT_.out HW_.out (by kernel_rfl)) (fun _ _ _ h => h) (Or.inl ⟨by rfl,?_⟩) hHeld ?_ ?_
             rotate_left
             ·rintro w' ⟨s0,s1,s2,s3,s4,s5,s6,s7,s8,s9,s10,s11,s12,s13,s14,s15,s16,s17,s18,s19,s20,s21,s22,s23,s24,s25,s26,s27,s28,s29,s30,s31,s32,s33,s34⟩
              go_simp
              with_reducible rfl
             rotate_left
             ·simp only [Act.put,setIfInBounds_toArray,set_cons_zero,set_cons_succ,i64_w,i32_w]
              rfl
             refine take_ (i:=39) (N:=some 52) (v:=?_) (a':=?_) #[T,T,T,T,T,T,T,T,T,T,T,T,T,T,T,T,T,T,T,T,T,T,T,T,T,T,T,T,T,T,T,T,T,T,T,T,T,T,T,T,F,F,F] rfl rfl (take_ofW HT_.out HW_.out (by kernel_rfl)) (fun _ _ _ h => h) (Or.inl ⟨by rfl,?_⟩) hHeld ?_ ?_
             rotate_left
             ·rintro w' ⟨s0,s1,s2,s3,s4,s5,s6,s7,s8,s9,s10,s11,s12,s13,s14,s15,s16,s17,s18,s19,s20,s21,s22,s23,s24,s25,s26,s27,s28,s29,s30,s31,s32,s33,s34⟩
              go_simp
              with_reducible rfl
             rotate_left
             ·simp only [Act.put,setIfInBounds_toArray,set_cons_zero,set_cons_succ,i64_w,i32_w]
              rfl
             refine pure_ (i:=40) (N:=some 53) (v:=?_) (a':=?_) #[T,T,T,T,T,T,T,T,T,T,T,T,T,T,T,T,T,T,T,T,T,T,T,T,T,T,T,T,T,T,T,T,T,T,T,T,T,T,T,T,T,F,F] rfl rfl (any_of HT_.out (by kernel_rfl)) (fun _ _ _ h => h) (Or.inl ⟨by rfl,?_⟩) ?_ ?_
             rotate_left
             ·intro w'
              go_simp
              with_reducible rfl
             rotate_left
             ·simp only [Act.put,setIfInBounds_toArray,set_cons_zero,set_cons_succ,i64_w,i32_w]
              rfl
             refine pure_ (i:=41) (N:=some 54) (v:=?_) (a':=?_) #[T,T,T,T,T,T,T,T,T,T,T,T,T,T,T,T,T,T,T,T,T,T,T,T,T,T,T,T,T,T,T,T,T,T,T,T,T,T,T,T,T,T,F] rfl rfl (any_of HT_.out (by kernel_rfl)) (fun _ _ _ h => h) (Or.inl ⟨by rfl,?_⟩) ?_ ?_
             rotate_left
             ·intro w'
              go_simp
              with_reducible rfl
             rotate_left
             ·simp only [Act.put,setIfInBounds_toArray,set_cons_zero,set_cons_succ,i64_w,i32_w]
              rfl
             refine pure_ (i:=42) (N:=some 55) (v:=?_) (a':=?_) #[T,T,T,T,T,T,T,T,T,T,T,T,T,T,T,T,T,T,T,T,T,T,T,T,T,T,T,T,T,T,T,T,T,T,T,T,T,T,T,T,T,T,T] rfl rfl (any_of HT_.out (by kernel_rfl)) (fun _ _ _ h => h) (Or.inl ⟨by rfl,?_⟩) ?_ ?_
             rotate_left
             ·intro w'
              go_simp
              with_reducible rfl
             rotate_left
             ·simp only [Act.put,setIfInBounds_toArray,set_cons_zero,set_cons_succ,i64_w,i32_w]
              rfl
             refine done_ (done_of HT_.out (by kernel_rfl)) ?_
             try go_wp2
             go_roundg k1
             case measure => have := HK1.out; omega
             case rel => exact ⟨(wrap64 (x3_1 + 1)),(by first | rfl | (simp; done) | (simp [*]; done)),H',⟨by have := HK1.out; omega⟩,⟨by repeat (first | (with_reducible first | exact HB.out | apply below_alloc | apply pw_below_drewN | apply below_drew1) | exact HB.out)⟩⟩
           ·rw [if_neg c15] at H
            exact absurd H (by simp)
          ·rw [if_neg c14] at H
           exact absurd H (by simp)
         ·rw [if_neg c12] at H
          have c12b0 : decide (0 < x3_1) = false := decide_eq_false c12
          clear c12
          have H' := Aside0.mk H
          clear H
          try go_wp2
          have n0_ := Aside0.mk (below_drew1 HB.out)
          clear HB
          have HB := n0_
          clear n0_
          have p157 : 0 ≤ (x3_1 : Int) := of_decide_eq_true (by first | (with_reducible assumption) | assumption)
          have q157 : x3_1 < (l0.length : Int) := of_decide_eq_true (by first | (with_reducible assumption) | assumption)
          obtain ⟨ad157,e157,hx157_0,hx157_1,hx157_2,hx157_3,hx157_4,hx157_5,hx157_6⟩ := at_T88 HR0.out x3_1 p157 q157
          have hw157_6 := hx157_6
          have hw157_5 := hx157_5
          have hw157_4 := hx157_4
          have hw157_3 := hx157_3
          have hw157_2 := hx157_2
          have hw157_1 := hx157_1
          have hw157_0 := hx157_0
          cases e157
          replace hx157_0 := (HB.out.cell (bl_ w _ hx157_0)).trans hx157_0
          replace hx157_1 := (HB.out.cell (bl_ w _ hx157_1)).trans hx157_1
          replace hx157_2 := (HB.out.cell (bl_ w _ hx157_2)).trans hx157_2
          replace hx157_3 := (HB.out.cell (bl_ w _ hx157_3)).trans hx157_3
          replace hx157_4 := (HB.out.cell (bl_ w _ hx157_4)).trans hx157_4
          replace hx157_5 := (HB.out.cell (bl_ w _ hx157_5)).trans hx157_5
          replace hx157_6 := (HB.out.cell (bl_ w _ hx157_6)).trans hx157_6
          replace p157 := eq_true p157
          replace q157 := eq_true q157
          have p159 : 0 ≤ (x3_1 : Int) := of_decide_eq_true (by first | (with_reducible assumption) | assumption)
          have q159 : x3_1 < (l0.length : Int) := of_decide_eq_true (by first | (with_reducible assumption) | assumption)
          obtain ⟨ad159,e159,hx159_0,hx159_1,hx159_2,hx159_3,hx159_4,hx159_5,hx159_6⟩ := at_T88 HR0.out x3_1 p159 q159
          have hw159_6 := hx159_6
          have hw159_5 := hx159_5
          have hw159_4 := hx159_4
          have hw159_3 := hx159_3
          have hw159_2 := hx159_2
          have hw159_1 := hx159_1
          have hw159_0 := hx159_0
          obtain rfl : ad157 = ad159 := (by injection e159)
          replace hx159_0 := (HB.out.cell (bl_ w _ hx159_0)).trans hx159_0
          replace hx159_1 := (HB.out.cell (bl_ w _ hx159_1)).trans hx159_1
          replace hx159_2 := (HB.out.cell (bl_ w _ hx159_2)).trans hx159_2
          replace hx159_3 := (HB.out.cell (bl_ w _ hx159_3)).trans hx159_3
          replace hx159_4 := (HB.out.cell (bl_ w _ hx159_4)).trans hx159_4
          replace hx159_5 := (HB.out.cell (bl_ w _ hx159_5)).trans hx159_5
          replace hx159_6 := (HB.out.cell (bl_ w _ hx159_6)).trans hx159_6
          replace p159 := eq_true p159
          replace q159 := eq_true q159
          have p161 : 0 ≤ (x3_1 : Int) := of_decide_eq_true (by first | (with_reducible assumption) | assumption)
          have q161 : x3_1 < (l0.length : Int) := of_decide_eq_true (by first | (with_reducible assumption) | assumption)
          obtain ⟨ad161,e161,hx161_0,hx161_1,hx161_2,hx161_3,hx161_4,hx161_5,hx161_6⟩ := at_T88 HR0.out x3_1 p161 q161
          have hw161_6 := hx161_6
          have hw161_5 := hx161_5
          have hw161_4 := hx161_4
          have hw161_3 := hx161_3
          have hw161_2 := hx161_2
          have hw161_1 := hx161_1
          have hw161_0 := hx161_0
          obtain rfl : ad157 = ad161 := (by injection e161)
          replace hx161_0 := (HB.out.cell (bl_ w _ hx161_0)).trans hx161_0
          replace hx161_1 := (HB.out.cell (bl_ w _ hx161_1)).trans hx161_1
          replace hx161_2 := (HB.out.cell (bl_ w _ hx161_2)).trans hx161_2
          replace hx161_3 := (HB.out.cell (bl_ w _ hx161_3)).trans hx161_3
          replace hx161_4 := (HB.out.cell (bl_ w _ hx161_4)).trans hx161_4
          replace hx161_5 := (HB.out.cell (bl_ w _ hx161_5)).trans hx161_5
          replace hx161_6 := (HB.out.cell (bl_ w _ hx161_6)).trans hx161_6
          replace p161 := eq_true p161
          replace q161 := eq_true q161
          refine start_ (n:=43) (S:=fun w' => w'.cell? (ad157.add ((x3_1).toNat * 7)) = some (.int .i64 ((rd_T88 l0 x3_1).f0)) ∧ w'.cell? ⟨(ad157.add ((x3_1).toNat * 7)).block,(ad157.add ((x3_1).toNat * 7)).off + 1,none⟩ = some (.int .i64 ((rd_T88 l0 x3_1).f1.f0)) ∧ w'.cell? ⟨(ad157.add ((x3_1).toNat * 7)).block,(ad157.add ((x3_1).toNat * 7)).off + 2,none⟩ = some (.int .i64 ((rd_T88 l0 x3_1).f1.f1)) ∧ w'.cell? ⟨(ad157.add ((x3_1).toNat * 7)).block,(ad157.add ((x3_1).toNat * 7)).off + 3,none⟩ = some (.int .i64 ((rd_T88 l0 x3_1).f1.f2)) ∧ w'.cell? ⟨(ad157.add ((x3_1).toNat * 7)).block,(ad157.add ((x3_1).toNat * 7)).off + 4,none⟩ = some (.int .i64 ((rd_T88 l0 x3_1).f1.f3)) ∧ w'.cell? ⟨(ad157.add ((x3_1).toNat * 7)).block,(ad157.add ((x3_1).toNat * 7)).off + 5,none⟩ = some (.int .i64 ((rd_T88 l0 x3_1).f1.f4)) ∧ w'.cell? ⟨(ad157.add ((x3_1).toNat * 7)).block,(ad157.add ((x3_1).toNat * 7)).off + 6,none⟩ = some (.int .i64 ((rd_T88 l0 x3_1).f1.f5)) ∧ w'.cell? (ad157.add ((x3_1).toNat * 7)) = some (.int .i64 ((rd_T88 l0 x3_1).f0)) ∧ w'.cell? ⟨(ad157.add ((x3_1).toNat * 7)).block,(ad157.add ((x3_1).toNat * 7)).off + 1,none⟩ = some (.int .i64 ((rd_T88 l0 x3_1).f1.f0)) ∧ w'.cell? ⟨(ad157.add ((x3_1).toNat * 7)).block,(ad157.add ((x3_1).toNat * 7)).off + 2,none⟩ = some (.int .i64 ((rd_T88 l0 x3_1).f1.f1)) ∧ w'.cell? ⟨(ad157.add ((x3_1).toNat * 7)).block,(ad157.add ((x3_1).toNat * 7)).off + 3,none⟩ = some (.int .i64 ((rd_T88 l0 x3_1).f1.f2)) ∧ w'.cell? ⟨(ad157.add ((x3_1).toNat * 7)).block,(ad157.add ((x3_1).toNat * 7)).off + 4,none⟩ = some (.int .i64 ((rd_T88 l0 x3_1).f1.f3)) ∧ w'.cell? ⟨(ad157.add ((x3_1).toNat * 7)).block,(ad157.add ((x3_1).toNat * 7)).off + 5,none⟩ = some (.int .i64 ((rd_T88 l0 x3_1).f1.f4)) ∧ w'.cell? ⟨(ad157.add ((x3_1).toNat * 7)).block,(ad157.add ((x3_1).toNat * 7)).off + 6,none⟩ = some (.int .i64 ((rd_T88 l0 x3_1).f1.f5)) ∧ w'.cell? (ad157.add ((x3_1).toNat * 7)) = some (.int .i64 ((rd_T88 l0 x3_1).f0)) ∧ w'.cell? ⟨(ad157.add ((x3_1).toNat * 7)).block,(ad157.add ((x3_1).toNat * 7)).off + 1,none⟩ = some (.int .i64 ((rd_T88 l0 x3_1).f1.f0)) ∧ w'.cell? ⟨(ad157.add ((x3_1).toNat * 7)).block,(ad157.add ((x3_1).toNat * 7)).off + 2,none⟩ = some (.int .i64 ((rd_T88 l0 x3_1).f1.f1)) ∧ w'.cell? ⟨(ad157.add ((x3_1).toNat * 7)).block,(ad157.add ((x3_1).toNat * 7)).off + 3,none⟩ = some (.int .i64 ((rd_T88 l0 x3_1).f1.f2)) ∧ w'.cell? ⟨(ad157.add ((x3_1).toNat * 7)).block,(ad157.add ((x3_1).toNat * 7)).off + 4,none⟩ = some (.int .i64 ((rd_T88 l0 x3_1).f1.f3)) ∧ w'.cell? ⟨(ad157.add ((x3_1).toNat * 7)).block,(ad157.add ((x3_1).toNat * 7)).off + 5,none⟩ = some (.int .i64 ((rd_T88 l0 x3_1).f1.f4)) ∧ w'.cell? ⟨(ad157.add ((x3_1).toNat * 7)).block,(ad157.add ((x3_1).toNat * 7)).off + 6,none⟩ = some (.int .i64 ((rd_T88 l0 x3_1).f1.f5))) (ds := []) #[F,F,F,F,F,F,F,F,F,F,F,F,F,F,F,F,F,F,F,F,F,F,F,F,F,F,F,F,F,F,F,F,F,F,F,F,F,F,F,F,F,F,F] (by kernel_rfl) rfl rfl ⟨((HB.out.cell (bl_ w _ hw157_0)).trans hw157_0),((HB.out.cell (bl_ w _ hw157_1)).trans hw157_1),((HB.out.cell (bl_ w _ hw157_2)).trans hw157_2),((HB.out.cell (bl_ w _ hw157_3)).trans hw157_3),((HB.out.cell (bl_ w _ hw157_4)).trans hw157_4),((HB.out.cell (bl_ w _ hw157_5)).trans hw157_5),((HB.out.cell (bl_ w _ hw157_6)).trans hw157_6),((HB.out.cell (bl_ w _ hw159_0)).trans hw159_0),((HB.out.cell (bl_ w _ hw159_1)).trans hw159_1),((HB.out.cell (bl_ w _ hw159_2)).trans hw159_2),((HB.out.cell (bl_ w _ hw159_3)).trans hw159_3),((HB.out.cell (bl_ w _ hw159_4)).trans hw159_4),((HB.out.cell (bl_ w _ hw159_5)).trans hw159_5),((HB.out.cell (bl_ w _ hw159_6)).trans hw159_6),((HB.out.cell (bl_ w _ hw161_0)).trans hw161_0),((HB.out.cell (bl_ w _ hw161_1)).trans hw161_1),((HB.out.cell (bl_ w _ hw161_2)).trans hw161_2),((HB.out.cell (bl_ w _ hw161_3)).trans hw161_3),((HB.out.cell (bl_ w _ hw161_4)).trans hw161_4),((HB.out.cell (bl_ w _ hw161_5)).trans hw161_5),((HB.out.cell (bl_ w _ hw161_6)).trans hw161_6)⟩ (fun hHeld => ?_); refine with_tabW spec_BucketsOK.tab6 spec_BucketsOK.bits6 (fun HT_ HW_ => ?_)
          generalize wr.drew = w21 at HB hx157_0 hx157_1 hx157_2 hx157_3 hx157_4 hx157_5 hx157_6 hx159_0 hx159_1 hx159_2 hx159_3 hx159_4 hx159_5 hx159_6 hx161_0 hx161_1 hx161_2 hx161_3 hx161_4 hx161_5 hx161_6 hHeld ⊢
          refine pure_ (i:=0) (N:=some 13) (v:=?_) (a':=?_) #[T,F,F,F,F,F,F,F,F,F,F,F,F,F,F,F,F,F,F,F,F,F,F,F,F,F,F,F,F,F,F,F,F,F,F,F,F,F,F,F,F,F,F] rfl rfl (any_of HT_.out (by kernel_rfl)) (fun _ _ _ h => h) (Or.inl ⟨by rfl,?_⟩) ?_ ?_
          rotate_left
          ·intro w'
           go_simp
           with_reducible rfl
          rotate_left
          ·simp only [Act.put,setIfInBounds_toArray,set_cons_zero,set_cons_succ,i64_w,i32_w]
           rfl
          refine pure_ (i:=1) (N:=some 14) (v:=?_) (a':=?_) #[T,T,F,F,F,F,F,F,F,F,F,F,F,F,F,F,F,F,F,F,F,F,F,F,F,F,F,F,F,F,F,F,F,F,F,F,F,F,F,F,F,F,F] rfl rfl (any_of HT_.out (by kernel_rfl)) (fun _ _ _ h => h) (Or.inl ⟨by rfl,?_⟩) ?_ ?_
          rotate_left
          ·intro w'
           go_simp
           with_reducible rfl
          rotate_left
          ·simp only [Act.put,setIfInBounds_toArray,set_cons_zero,set_cons_succ,i64_w,i32_w]
           rfl
          refine pure_ (i:=2) (N:=some 15) (v:=?_) (a':=?_) #[T,T,T,F,F,F,F,F,F,F,F,F,F,F,F,F,F,F,F,F,F,F,F,F,F,F,F,F,F,F,F,F,F,F,F,F,F,F,F,F,F,F,F] rfl rfl (any_of HT_.out (by kernel_rfl)) (fun _ _ _ h => h) (Or.inl ⟨by rfl,?_⟩) ?_ ?_
          rotate_left
          ·intro w'
           go_simp
           with_reducible rfl
          rotate_left
          ·simp only [Act.put,setIfInBounds_toArray,set_cons_zero,set_cons_succ,i64_w,i32_w]
           rfl
          refine pure_ (i:=3) (N:=some 16) (v:=?_) (a':=?_) #[T,T,T,T,F,F,F,F,F,F,F,F,F,F,F,F,F,F,F,F,F,F,F,F,F,F,F,F,F,F,F,F,F,F,F,F,F,F,F,F,F,F,F] rfl rfl (any_of HT_.out (by kernel_rfl)) (fun _ _ _ h => h) (Or.inl ⟨by rfl,?_⟩) ?_ ?_
          rotate_left
          ·intro w'
           go_simp
           with_reducible rfl
          rotate_left
          ·simp only [Act.put,setIfInBounds_toArray,set_cons_zero,set_cons_succ,i64_w,i32_w]
           rfl
          refine take_ (i:=4) (N:=some 17) (v:=?_) (a':=?_) #[T,T,T,T,T,F,F,F,F,F,F,F,F,F,F,F,F,F,F,F,F,F,F,F,F,F,F,F,F,F,F,F,F,F,F,F,F,F,F,F,F,F,F] rfl rfl (take_ofW HT_.out HW_.out (by kernel_rfl)) (fun _ _ _ h => h) (Or.inl ⟨by rfl,?_⟩) hHeld ?_ ?_
          rotate_left
          ·rintro w' ⟨s0,s1,s2,s3,s4,s5,s6,s7,s8,s9,s10,s11,s12,s13,s14,s15,s16,s17,s18,s19,s20⟩
           go_simp
           with_reducible rfl
          rotate_left
          ·simp only [Act.put,setIfInBounds_toArray,set_cons_zero,set_cons_succ,i64_w,i32_w]
           rfl
          refine one_ (i:=5) (N:=some 18) #[T,T,T,T,T,T,F,F,F,F,F,F,F,F,F,F,F,F,F,F,F,F,F,F,F,F,F,F,F,F,F,F,F,F,F,F,F,F,F,F,F,F,F] rfl rfl (one_of HT_.out (by kernel_rfl)) (by decide) (fun K hK => ?_)
          refine goes_ Tryd.func46 (by kernel_rfl) rfl #[.int .i64 ((rd_T88 l0 x3_1).f0),.int .i64 0,.int .i64 99999] (by rfl) rfl rfl (by (try simp only [List.map_toArray,List.map_cons,List.map_nil]); first | done | rfl | (simp only [List.length_drop,List.length_take]; rfl)) ?_
          with_reducible refine (spec_l01In.calls ((rd_T88 l0 x3_1).f0) 0 99999 true _ A5.out).mono ?_
          rintro e w' ⟨rfl,⟨nd,rfl⟩⟩
          refine ⟨_,rfl,?_⟩
          refine hK.out _ _ ⟨((HB.out.cell (bl_ w _ hw157_0)).trans hw157_0),((HB.out.cell (bl_ w _ hw157_1)).trans hw157_1),((HB.out.cell (bl_ w _ hw157_2)).trans hw157_2),((HB.out.cell (bl_ w _ hw157_3)).trans hw157_3),((HB.out.cell (bl_ w _ hw157_4)).trans hw157_4),((HB.out.cell (bl_ w _ hw157_5)).trans hw157_5),((HB.out.cell (bl_ w _ hw157_6)).trans hw157_6),((HB.out.cell (bl_ w _ hw159_0)).trans hw159_0),((HB.out.cell (bl_ w _ hw159_1)).trans hw159_1),((HB.out.cell (bl_ w _ hw159_2)).trans hw159_2),((HB.out.cell (bl_ w _ hw159_3)).trans hw159_3),((HB.out.cell (bl_ w _ hw159_4)).trans hw159_4),((HB.out.cell (bl_ w _ hw159_5)).trans hw159_5),((HB.out.cell (bl_ w _ hw159_6)).trans hw159_6),((HB.out.cell (bl_ w _ hw161_0)).trans hw161_0),((HB.out.cell (bl_ w _ hw161_1)).trans hw161_1),((HB.out.cell (bl_ w _ hw161_2)).trans hw161_2),((HB.out.cell (bl_ w _ hw161_3)).trans hw161_3),((HB.out.cell (bl_ w _ hw161_4)).trans hw161_4),((HB.out.cell (bl_ w _ hw161_5)).trans hw161_5),((HB.out.cell (bl_ w _ hw161_6)).trans hw161_6)⟩ (fun hHeld => ?_)
          clear hK K
          refine norm_ (a':=?_) ?_ ?_
          rotate_left
          ·show Act.put _ (some 18) _ = _
           simp only [Act.put,setIfInBounds_toArray,set_cons_zero,set_cons_succ,i64_w,i32_w]
           rfl
          refine pure_ (i:=6) (N:=some 19) (v:=?_) (a':=?_) #[T,T,T,T,T,T,T,F,F,F,F,F,F,F,F,F,F,F,F,F,F,F,F,F,F,F,F,F,F,F,F,F,F,F,F,F,F,F,F,F,F,F,F] rfl rfl (any_of HT_.out (by kernel_rfl)) (fun _ _ _ h => h) (Or.inl ⟨by rfl,?_⟩) ?_ ?_
          rotate_left
          ·intro w'
           go_simp
           with_reducible rfl
          rotate_left
          ·simp only [Act.put,setIfInBounds_toArray,set_cons_zero,set_cons_succ,i64_w,i32_w]
           rfl
          refine pure_ (i:=7) (N:=some 20) (v:=?_) (a':=?_) #[T,T,T,T,T,T,T,T,F,F,F,F,F,F,F,F,F,F,F,F,F,F,F,F,F,F,F,F,F,F,F,F,F,F,F,F,F,F,F,F,F,F,F] rfl rfl (any_of HT_.out (by kernel_rfl)) (fun _ _ _ h => h) (Or.inl ⟨by rfl,?_⟩) ?_ ?_
          rotate_left
          ·intro w'
           go_simp
           with_reducible rfl
          rotate_left
          ·simp only [Act.put,setIfInBounds_toArray,set_cons_zero,set_cons_succ,i64_w,i32_w]
           rfl
          refine pure_ (i:=8) (N:=some 21) (v:=?_) (a':=?_) #[T,T,T,T,T,T,T,T,T,F,F,F,F,F,F,F,F,F,F,F,F,F,F,F,F,F,F,F,F,F,F,F,F,F,F,F,F,F,F,F,F,F,F] rfl rfl (any_of HT_.out (by kernel_rfl)) (fun _ _ _ h => h) (Or.inl ⟨by rfl,?_⟩) ?_ ?_
          rotate_left
          ·intro w'
           go_simp
           with_reducible rfl
          rotate_left
          ·simp only [Act.put,setIfInBounds_toArray,set_cons_zero,set_cons_succ,i64_w,i32_w]
           rfl
          refine pure_ (i:=9) (N:=some 22) (v:=?_) (a':=?_) #[T,T,T,T,T,T,T,T,T,T,F,F,F,F,F,F,F,F,F,F,F,F,F,F,F,F,F,F,F,F,F,F,F,F,F,F,F,F,F,F,F,F,F] rfl rfl (any_of HT_.out (by kernel_rfl)) (fun _ _ _ h => h) (Or.inl ⟨by rfl,?_⟩) ?_ ?_
          rotate_left
          ·intro w'
           go_simp
           with_reducible rfl
          rotate_left
          ·simp only [Act.put,setIfInBounds_toArray,set_cons_zero,set_cons_succ,i64_w,i32_w]
           rfl
          refine pure_ (i:=10) (N:=some 23) (v:=?_) (a':=?_) #[T,T,T,T,T,T,T,T,T,T,T,F,F,F,F,F,F,F,F,F,F,F,F,F,F,F,F,F,F,F,F,F,F,F,F,F,F,F,F,F,F,F,F] rfl rfl (any_of HT_.out (by kernel_rfl)) (fun _ _ _ h => h) (Or.inl ⟨by rfl,?_⟩) ?_ ?_
          rotate_left
          ·intro w'
           go_simp
           with_reducible rfl
          rotate_left
          ·simp only [Act.put,setIfInBounds_toArray,set_cons_zero,set_cons_succ,i64_w,i32_w]
           rfl
          refine pure_ (i:=11) (N:=some 24) (v:=?_) (a':=?_) #[T,T,T,T,T,T,T,T,T,T,T,T,F,F,F,F,F,F,F,F,F,F,F,F,F,F,F,F,F,F,F,F,F,F,F,F,F,F,F,F,F,F,F] rfl rfl (any_of HT_.out (by kernel_rfl)) (fun _ _ _ h => h) (Or.inl ⟨by rfl,?_⟩) ?_ ?_
          rotate_left
          ·intro w'
           go_simp
           with_reducible rfl
          rotate_left
          ·simp only [Act.put,setIfInBounds_toArray,set_cons_zero,set_cons_succ,i64_w,i32_w]
           rfl
          refine take_ (i:=12) (N:=some 25) (v:=?_) (a':=?_) #[T,T,T,T,T,T,T,T,T,T,T,T,T,F,F,F,F,F,F,F,F,F,F,F,F,F,F,F,F,F,F,F,F,F,F,F,F,F,F,F,F,F,F] rfl rfl (take_ofW HT_.out HW_.out (by kernel_rfl)) (fun _ _ _ h => h) (Or.inl ⟨by rfl,?_⟩) hHeld ?_ ?_
          rotate_left
          ·rintro w' ⟨s0,s1,s2,s3,s4,s5,s6,s7,s8,s9,s10,s11,s12,s13,s14,s15,s16,s17,s18,s19,s20⟩
           go_simp
           with_reducible rfl
          rotate_left
          ·simp only [Act.put,setIfInBounds_toArray,set_cons_zero,set_cons_succ,i64_w,i32_w]
           rfl
          refine one_ (i:=13) (N:=some 26) #[T,T,T,T,T,T,T,T,T,T,T,T,T,T,F,F,F,F,F,F,F,F,F,F,F,F,F,F,F,F,F,F,F,F,F,F,F,F,F,F,F,F,F] rfl rfl (one_of HT_.out (by kernel_rfl)) (by decide) (fun K hK => ?_)
          refine goes_ Tryd.func101 (by kernel_rfl) rfl #[.agg #[.int .i64 ((rd_T88 l0 x3_1).f1.f0),.int .i64 ((rd_T88 l0 x3_1).f1.f1),.int .i64 ((rd_T88 l0 x3_1).f1.f2),.int .i64 ((rd_T88 l0 x3_1).f1.f3),.int .i64 ((rd_T88 l0 x3_1).f1.f4),.int .i64 ((rd_T88 l0 x3_1).f1.f5)]] (by rfl) rfl rfl (by (try simp only [List.map_toArray,List.map_cons,List.map_nil]); first | done | rfl | (simp only [List.length_drop,List.length_take]; rfl)) ?_
          with_reducible refine (spec_AggOK.calls ((rd_T88 l0 x3_1).f1.f0) ((rd_T88 l0 x3_1).f1.f1) ((rd_T88 l0 x3_1).f1.f2) ((rd_T88 l0 x3_1).f1.f3) ((rd_T88 l0 x3_1).f1.f4) ((rd_T88 l0 x3_1).f1.f5) true _ A7.out).mono ?_
          rintro e w22 ⟨rfl,hb⟩
          refine ⟨_,rfl,?_⟩
          have n0_ := Aside0.mk (below_step (by repeat (first | (with_reducible first | exact HB.out | apply below_alloc | apply pw_below_drewN | apply below_drew1) | exact HB.out)) hb)
          clear HB
          have HB := n0_
          clear n0_
          (try clear hb)
          (try clear hb2)
          (try clear hk)
          (try clear hi)
          refine hK.out _ _ ⟨((HB.out.cell (bl_ w _ hw157_0)).trans hw157_0),((HB.out.cell (bl_ w _ hw157_1)).trans hw157_1),((HB.out.cell (bl_ w _ hw157_2)).trans hw157_2),((HB.out.cell (bl_ w _ hw157_3)).trans hw157_3),((HB.out.cell (bl_ w _ hw157_4)).trans hw157_4),((HB.out.cell (bl_ w _ hw157_5)).trans hw157_5),((HB.out.cell (bl_ w _ hw157_6)).trans hw157_6),((HB.out.cell (bl_ w _ hw159_0)).trans hw159_0),((HB.out.cell (bl_ w _ hw159_1)).trans hw159_1),((HB.out.cell (bl_ w _ hw159_2)).trans hw159_2),((HB.out.cell (bl_ w _ hw159_3)).trans hw159_3),((HB.out.cell (bl_ w _ hw159_4)).trans hw159_4),((HB.out.cell (bl_ w _ hw159_5)).trans hw159_5),((HB.out.cell (bl_ w _ hw159_6)).trans hw159_6),((HB.out.cell (bl_ w _ hw161_0)).trans hw161_0),((HB.out.cell (bl_ w _ hw161_1)).trans hw161_1),((HB.out.cell (bl_ w _ hw161_2)).trans hw161_2),((HB.out.cell (bl_ w _ hw161_3)).trans hw161_3),((HB.out.cell (bl_ w _ hw161_4)).trans hw161_4),((HB.out.cell (bl_ w _ hw161_5)).trans hw161_5),((HB.out.cell (bl_ w _ hw161_6)).trans hw161_6)⟩ (fun hHeld => ?_)
          clear hK K
          refine norm_ (a':=?_) ?_ ?_
          rotate_left
          ·show Act.put _ (some 26) _ = _
           simp only [Act.put,setIfInBounds_toArray,set_cons_zero,set_cons_succ,i64_w,i32_w]
           rfl
          refine pure_ (i:=14) (N:=some 27) (v:=?_) (a':=?_) #[T,T,T,T,T,T,T,T,T,T,T,T,T,T,T,F,F,F,F,F,F,F,F,F,F,F,F,F,F,F,F,F,F,F,F,F,F,F,F,F,F,F,F] rfl rfl (any_of HT_.out (by kernel_rfl)) (fun _ _ _ h => h) (Or.inl ⟨by rfl,?_⟩) ?_ ?_
          rotate_left
          ·intro w'
           go_simp
           with_reducible rfl
          rotate_left
          ·simp only [Act.put,setIfInBounds_toArray,set_cons_zero,set_cons_succ,i64_w,i32_w]
           rfl
          refine pure_ (i:=15) (N:=some 28) (v:=?_) (a':=?_) #[T,T,T,T,T,T,T,T,T,T,T,T,T,T,T,T,F,F,F,F,F,F,F,F,F,F,F,F,F,F,F,F,F,F,F,F,F,F,F,F,F,F,F] rfl rfl (any_of HT_.out (by kernel_rfl)) (fun _ _ _ h => h) (Or.inl ⟨by rfl,?_⟩) ?_ ?_
          rotate_left
          ·intro w'
           go_simp
           with_reducible rfl
          rotate_left
          ·simp only [Act.put,setIfInBounds_toArray,set_cons_zero,set_cons_succ,i64_w,i32_w]
           rfl
          refine pure_ (i:=16) (N:=some 29) (v:=?_) (a':=?_) #[T,T,T,T,T,T,T,T,T,T,T,T,T,T,T,T,T,F,F,F,F,F,F,F,F,F,F,F,F,F,F,F,F,F,F,F,F,F,F,F,F,F,F] rfl rfl (any_of HT_.out (by kernel_rfl)) (fun _ _ _ h => h) (Or.inl ⟨by rfl,?_⟩) ?_ ?_
          rotate_left
          ·intro w'
           go_simp
           with_reducible rfl
          rotate_left
          ·simp only [Act.put,setIfInBounds_toArray,set_cons_zero,set_cons_succ,i64_w,i32_w]
           rfl
          refine pure_ (i:=17) (N:=some 30) (v:=?_) (a':=?_) #[T,T,T,T,T,T,T,T,T,T,T,T,T,T,T,T,T,T,F,F,F,F,F,F,F,F,F,F,F,F,F,F,F,F,F,F,F,F,F,F,F,F,F] rfl rfl (any_of HT_.out (by kernel_rfl)) (fun _ _ _ h => h) (Or.inl ⟨by rfl,?_⟩) ?_ ?_
          rotate_left
          ·intro w'
           go_simp
           with_reducible rfl
          rotate_left
          ·simp only [Act.put,setIfInBounds_toArray,set_cons_zero,set_cons_succ,i64_w,i32_w]
           rfl
          refine pure_ (i:=18) (N:=some 31) (v:=?_) (a':=?_) #[T,T,T,T,T,T,T,T,T,T,T,T,T,T,T,T,T,T,T,F,F,F,F,F,F,F,F,F,F,F,F,F,F,F,F,F,F,F,F,F,F,F,F] rfl rfl (any_of HT_.out (by kernel_rfl)) (fun _ _ _ h => h) (Or.inl ⟨by rfl,?_⟩) ?_ ?_
          rotate_left
          ·intro w'
           go_simp
           with_reducible rfl
          rotate_left
          ·simp only [Act.put,setIfInBounds_toArray,set_cons_zero,set_cons_succ,i64_w,i32_w]
           rfl
          refine pure_ (i:=19) (N:=some 32) (v:=?_) (a':=?_) #[T,T,T,T,T,T,T,T,T,T,T,T,T,T,T,T,T,T,T,T,F,F,F,F,F,F,F,F,F,F,F,F,F,F,F,F,F,F,F,F,F,F,F] rfl rfl (any_of HT_.out (by kernel_rfl)) (fun _ _ _ h => h) (Or.inl ⟨by rfl,?_⟩) ?_ ?_
          rotate_left
          ·intro w'
           go_simp
           with_reducible rfl
          rotate_left
          ·simp only [Act.put,setIfInBounds_toArray,set_cons_zero,set_cons_succ,i64_w,i32_w]
           rfl
          refine pure_ (i:=20) (N:=some 33) (v:=?_) (a':=?_) #[T,T,T,T,T,T,T,T,T,T,T,T,T,T,T,T,T,T,T,T,T,F,F,F,F,F,F,F,F,F,F,F,F,F,F,F,F,F,F,F,F,F,F] rfl rfl (any_of HT_.out (by kernel_rfl)) (fun _ _ _ h => h) (Or.inl ⟨by rfl,?_⟩) ?_ ?_
          rotate_left
          ·intro w'
           go_simp
           with_reducible rfl
          rotate_left
          ·simp only [Act.put,setIfInBounds_toArray,set_cons_zero,set_cons_succ,i64_w,i32_w]
           rfl
          refine pure_ (i:=21) (N:=some 34) (v:=?_) (a':=?_) #[T,T,T,T,T,T,T,T,T,T,T,T,T,T,T,T,T,T,T,T,T,T,F,F,F,F,F,F,F,F,F,F,F,F,F,F,F,F,F,F,F,F,F] rfl rfl (any_of HT_.out (by kernel_rfl)) (fun _ _ _ h => h) (Or.inl ⟨by rfl,?_⟩) ?_ ?_
          rotate_left
          ·intro w'
           go_simp
           with_reducible rfl
          rotate_left
          ·simp only [Act.put,setIfInBounds_toArray,set_cons_zero,set_cons_succ,i64_w,i32_w]
           rfl
          refine take_ (i:=22) (N:=some 35) (v:=?_) (a':=?_) #[T,T,T,T,T,T,T,T,T,T,T,T,T,T,T,T,T,T,T,T,T,T,T,F,F,F,F,F,F,F,F,F,F,F,F,F,F,F,F,F,F,F,F] rfl rfl (take_ofW HT_.out HW_.out (by kernel_rfl)) (fun _ _ _ h => h) (Or.inl ⟨by rfl,?_⟩) hHeld ?_ ?_
          rotate_left
          ·rintro w' ⟨s0,s1,s2,s3,s4,s5,s6,s7,s8,s9,s10,s11,s12,s13,s14,s15,s16,s17,s18,s19,s20⟩
           go_simp
           with_reducible rfl
          rotate_left
          ·simp only [Act.put,setIfInBounds_toArray,set_cons_zero,set_cons_succ,i64_w,i32_w]
           rfl
          refine pure_ (i:=23) (N:=some 36) (v:=?_) (a':=?_) #[T,T,T,T,T,T,T,T,T,T,T,T,T,T,T,T,T,T,T,T,T,T,T,T,F,F,F,F,F,F,F,F,F,F,F,F,F,F,F,F,F,F,F] rfl rfl (any_of HT_.out (by kernel_rfl)) (fun _ _ _ h => h) (Or.inl ⟨by rfl,?_⟩) ?_ ?_
          rotate_left
          ·intro w'
           go_simp
           with_reducible rfl
          rotate_left
          ·simp only [Act.put,setIfInBounds_toArray,set_cons_zero,set_cons_succ,i64_w,i32_w]
           rfl
          refine pure_ (i:=24) (N:=some 37) (v:=?_) (a':=?_) #[T,T,T,T,T,T,T,T,T,T,T,T,T,T,T,T,T,T,T,T,T,T,T,T,T,F,F,F,F,F,F,F,F,F,F,F,F,F,F,F,F,F,F] rfl rfl (any_of HT_.out (by kernel_rfl)) (fun _ _ _ h => h) (Or.inl ⟨by rfl,?_⟩) ?_ ?_
          rotate_left
          ·intro w'
           go_simp
           with_reducible rfl
          rotate_left
          ·simp only [Act.put,setIfInBounds_toArray,set_cons_zero,set_cons_succ,i64_w,i32_w]
           rfl
          refine pure_ (i:=25) (N:=some 38) (v:=?_) (a':=?_) #[T,T,T,T,T,T,T,T,T,T,T,T,T,T,T,T,T,T,T,T,T,T,T,T,T,T,F,F,F,F,F,F,F,F,F,F,F,F,F,F,F,F,F] rfl rfl (any_of HT_.out (by kernel_rfl)) (fun _ _ _ h => h) (Or.inl ⟨by rfl,?_⟩) ?_ ?_
          rotate_left
          ·intro w'
           go_simp
           with_reducible rfl
          rotate_left
          ·simp only [Act.put,setIfInBounds_toArray,set_cons_zero,set_cons_succ,i64_w,i32_w]
           rfl
          refine pure_ (i:=26) (N:=some 39) (v:=?_) (a':=?_) #[T,T,T,T,T,T,T,T,T,T,T,T,T,T,T,T,T,T,T,T,T,T,T,T,T,T,T,F,F,F,F,F,F,F,F,F,F,F,F,F,F,F,F] rfl rfl (any_of HT_.out (by kernel_rfl)) (fun _ _ _ h => h) (Or.inl ⟨by rfl,?_⟩) ?_ ?_
          rotate_left
          ·intro w'
           go_simp
           with_reducible rfl
          rotate_left
          ·simp only [Act.put,setIfInBounds_toArray,set_cons_zero,set_cons_succ,i64_w,i32_w]
           rfl
          refine pure_ (i:=27) (N:=some 40) (v:=?_) (a':=?_) #[T,T,T,T,T,T,T,T,T,T,T,T,T,T,T,T,T,T,T,T,T,T,T,T,T,T,T,T,F,F,F,F,F,F,F,F,F,F,F,F,F,F,F] rfl rfl (any_of HT_.out (by kernel_rfl)) (fun _ _ _ h => h) (Or.inl ⟨by rfl,?_⟩) ?_ ?_
          rotate_left
          ·intro w'
           go_simp
           with_reducible rfl
          rotate_left
          ·simp only [Act.put,setIfInBounds_toArray,set_cons_zero,set_cons_succ,i64_w,i32_w]
           rfl
          refine pure_ (i:=28) (N:=some 41) (v:=?_) (a':=?_) #[T,T,T,T,T,T,T,T,T,T,T,T,T,T,T,T,T,T,T,T,T,T,T,T,T,T,T,T,T,F,F,F,F,F,F,F,F,F,F,F,F,F,F] rfl rfl (any_of HT_.out (by kernel_rfl)) (fun _ _ _ h => h) (Or.inl ⟨by rfl,?_⟩) ?_ ?_
          rotate_left
          ·intro w'
           go_simp
           with_reducible rfl
          rotate_left
          ·simp only [Act.put,setIfInBounds_toArray,set_cons_zero,set_cons_succ,i64_w,i32_w]
           rfl
          refine pure_ (i:=29) (N:=some 42) (v:=undef) (a':=?_) #[T,T,T,T,T,T,T,T,T,T,T,T,T,T,T,T,T,T,T,T,T,T,T,T,T,T,T,T,T,T,F,F,F,F,F,F,F,F,F,F,F,F,F] rfl rfl (any_of HT_.out (by kernel_rfl)) (fun _ _ _ h => h) (Or.inr ⟨by rfl,rfl⟩) ?_ ?_
          rotate_left
          ·simp only [Act.put,setIfInBounds_toArray,set_cons_zero,set_cons_succ,i64_w,i32_w]
           rfl
          refine pure_ (i:=30) (N:=some 43) (v:=undef) (a':=?_) #[T,T,T,T,T,T,T,T,T,T,T,T,T,T,T,T,T,T,T,T,T,T,T,T,T,T,T,T,T,T,T,F,F,F,F,F,F,F,F,F,F,F,F] rfl rfl (any_of HT_.out (by kernel_rfl)) (fun _ _ _ h => h) (Or.inr ⟨by rfl,rfl⟩) ?_ ?_
          rotate_left
          ·simp only [Act.put,setIfInBounds_toArray,set_cons_zero,set_cons_succ,i64_w,i32_w]
           rfl
          refine pure_ (i:=31) (N:=some 44) (v:=undef) (a':=?_) #[T,T,T,T,T,T,T,T,T,T,T,T,T,T,T,T,T,T,T,T,T,T,T,T,T,T,T,T,T,T,T,T,F,F,F,F,F,F,F,F,F,F,F] rfl rfl (any_of HT_.out (by kernel_rfl)) (fun _ _ _ h => h) (Or.inr ⟨by rfl,rfl⟩) ?_ ?_
          rotate_left
          ·simp only [Act.put,setIfInBounds_toArray,set_cons_zero,set_cons_succ,i64_w,i32_w]
           rfl
          refine pure_ (i:=32) (N:=some 45) (v:=undef) (a':=?_) #[T,T,T,T,T,T,T,T,T,T,T,T,T,T,T,T,T,T,T,T,T,T,T,T,T,T,T,T,T,T,T,T,T,F,F,F,F,F,F,F,F,F,F] rfl rfl (any_of HT_.out (by kernel_rfl)) (fun _ _ _ h => h) (Or.inr ⟨by rfl,rfl⟩) ?_ ?_
          rotate_left
          ·simp only [Act.put,setIfInBounds_toArray,set_cons_zero,set_cons_succ,i64_w,i32_w]
           rfl
          refine pure_ (i:=33) (N:=some 46) (v:=undef) (a':=?_) #[T,T,T,T,T,T,T,T,T,T,T,T,T,T,T,T,T,T,T,T,T,T,T,T,T,T,T,T,T,T,T,T,T,T,F,F,F,F,F,F,F,F,F] rfl rfl (any_of HT_.out (by kernel_rfl)) (fun _ _ _ h => h) (Or.inr ⟨by rfl,rfl⟩) ?_ ?_
          rotate_left
          ·simp only [Act.put,setIfInBounds_toArray,set_cons_zero,set_cons_succ,i64_w,i32_w]
           rfl
          refine pure_ (i:=34) (N:=some 47) (v:=undef) (a':=?_) #[T,T,T,T,T,T,T,T,T,T,T,T,T,T,T,T,T,T,T,T,T,T,T,T,T,T,T,T,T,T,T,T,T,T,T,F,F,F,F,F,F,F,F] rfl rfl (any_of HT_.out (by kernel_rfl)) (fun _ _ _ h => h) (Or.inr ⟨by rfl,rfl⟩) ?_ ?_
          rotate_left
          ·simp only [Act.put,setIfInBounds_toArray,set_cons_zero,set_cons_succ,i64_w,i32_w]
           rfl
          refine pure_ (i:=35) (N:=some 48) (v:=undef) (a':=?_) #[T,T,T,T,T,T,T,T,T,T,T,T,T,T,T,T,T,T,T,T,T,T,T,T,T,T,T,T,T,T,T,T,T,T,T,T,F,F,F,F,F,F,F] rfl rfl (any_of HT_.out (by kernel_rfl)) (fun _ _ _ h => h) (Or.inr ⟨by rfl,rfl⟩) ?_ ?_
          rotate_left
          ·simp only [Act.put,setIfInBounds_toArray,set_cons_zero,set_cons_succ,i64_w,i32_w]
           rfl
          refine pure_ (i:=36) (N:=some 49) (v:=undef) (a':=?_) #[T,T,T,T,T,T,T,T,T,T,T,T,T,T,T,T,T,T,T,T,T,T,T,T,T,T,T,T,T,T,T,T,T,T,T,T,T,F,F,F,F,F,F] rfl rfl (any_of HT_.out (by kernel_rfl)) (fun _ _ _ h => h) (Or.inr ⟨by rfl,rfl⟩) ?_ ?_
          rotate_left
          ·simp only [Act.put,setIfInBounds_toArray,set_cons_zero,set_cons_succ,i64_w,i32_w]
           rfl
          refine pure_ (i:=37) (N:=some 50) (v:=undef) (a':=?_) #[T,T,T,T,T,T,T,T,T,T,T,T,T,T,T,T,T,T,T,T,T,T,T,T,T,T,T,T,T,T,T,T,T,T,T,T,T,T,F,F,F,F,F] rfl rfl (any_of HT_.out (by kernel_rfl)) (fun _ _ _ h => h) (Or.inr ⟨by rfl,rfl⟩) ?_ ?_
          rotate_left
          ·simp only [Act.put,setIfInBounds_toArray,set_cons_zero,set_cons_succ,i64_w,i32_w]
           rfl
          refine pure_ (i:=38) (N:=some 51) (v:=undef) (a':=?_) #[T,T,T,T,T,T,T,T,T,T,T,T,T,T,T,T,T,T,T,T,T,T,T,T,T,T,T,T,T,T,T,T,T,T,T,T,T,T,T,F,F,F,F] rfl rfl (any_of HT_.out (by kernel_rfl)) (fun _ _ _ h => h) (Or.inr ⟨by rfl,rfl⟩) ?_ ?_
          rotate_left
          ·simp only [Act.put,setIfInBounds_toArray,set_cons_zero,set_cons_succ,i64_w,i32_w]
           rfl
          refine pure_ (i:=39) (N:=some 52) (v:=undef) (a':=?_) #[T,T,T,T,T,T,T,T,T,T,T,T,T,T,T,T,T,T,T,T,T,T,T,T,T,T,T,T,T,T,T,T,T,T,T,T,T,T,T,T,F,F,F] rfl rfl (any_of HT_.out (by kernel_rfl)) (fun _ _ _ h => h) (Or.inr ⟨by rfl,rfl⟩) ?_ ?_
          rotate_left
          ·simp only [Act.put,setIfInBounds_toArray,set_cons_zero,set_cons_succ,i64_w,i32_w]
           rfl
          refine pure_ (i:=40) (N:=some 53) (v:=undef) (a':=?_) #[T,T,T,T,T,T,T,T,T,T,T,T,T,T,T,T,T,T,T,T,T,T,T,T,T,T,T,T,T,T,T,T,T,T,T,T,T,T,T,T,T,F,F] rfl rfl (any_of HT_.out (by kernel_rfl)) (fun _ _ _ h => h) (Or.inr ⟨by rfl,rfl⟩) ?_ ?_
          rotate_left
          ·simp only [Act.put,setIfInBounds_toArray,set_cons_zero,set_cons_succ,i64_w,i32_w]
           rfl
          refine pure_ (i:=41) (N:=some 54) (v:=?_) (a':=?_) #[T,T,T,T,T,T,T,T,T,T,T,T,T,T,T,T,T,T,T,T,T,T,T,T,T,T,T,T,T,T,T,T,T,T,T,T,T,T,T,T,T,T,F] rfl rfl (any_of HT_.out (by kernel_rfl)) (fun _ _ _ h => h) (Or.inl ⟨by rfl,?_⟩) ?_ ?_
          rotate_left
          ·intro w'
           go_simp
           with_reducible rfl
          rotate_left
          ·simp only [Act.put,setIfInBounds_toArray,set_cons_zero,set_cons_succ,i64_w,i32_w]
           rfl
          refine pure_ (i:=42) (N:=some 55) (v:=?_) (a':=?_) #[T,T,T,T,T,T,T,T,T,T,T,T,T,T,T,T,T,T,T,T,T,T,T,T,T,T,T,T,T,T,T,T,T,T,T,T,T,T,T,T,T,T,T] rfl rfl (any_of HT_.out (by kernel_rfl)) (fun _ _ _ h => h) (Or.inl ⟨by rfl,?_⟩) ?_ ?_
          rotate_left
          ·intro w'
           go_simp
           with_reducible rfl
          rotate_left
          ·simp only [Act.put,setIfInBounds_toArray,set_cons_zero,set_cons_succ,i64_w,i32_w]
           rfl
          refine done_ (done_of HT_.out (by kernel_rfl)) ?_
          try go_wp2
          go_roundg k1
          case measure => have := HK1.out; omega
          case rel => exact ⟨(wrap64 (x3_1 + 1)),(by first | rfl | (simp; done) | (simp [*]; done)),H',⟨by have := HK1.out; omega⟩,⟨by repeat (first | (with_reducible first | exact HB.out | apply below_alloc | apply pw_below_drewN | apply below_drew1) | exact HB.out)⟩⟩
       ·replace c8 := Bool.eq_false_iff.mpr c8
        subst c8
        have H1 : (some false) = some r := by rw [if_neg (show ¬ (false = true) by decide)] at H; exact H
        clear H
        have H := H1
        clear H1
        obtain rfl := Option.some.inj H
        try go_wp2
        have n0_ := Aside0.mk (below_drew1 HB.out)
        clear HB
        have HB := n0_
        clear n0_
        have p157 : 0 ≤ (x3_1 : Int) := of_decide_eq_true (by first | (with_reducible assumption) | assumption)
        have q157 : x3_1 < (l0.length : Int) := of_decide_eq_true (by first | (with_reducible assumption) | assumption)
        obtain ⟨ad157,e157,hx157_0,hx157_1,hx157_2,hx157_3,hx157_4,hx157_5,hx157_6⟩ := at_T88 HR0.out x3_1 p157 q157
        have hw157_6 := hx157_6
        have hw157_5 := hx157_5
        have hw157_4 := hx157_4
        have hw157_3 := hx157_3
        have hw157_2 := hx157_2
        have hw157_1 := hx157_1
        have hw157_0 := hx157_0
        cases e157
        replace hx157_0 := (HB.out.cell (bl_ w _ hx157_0)).trans hx157_0
        replace hx157_1 := (HB.out.cell (bl_ w _ hx157_1)).trans hx157_1
        replace hx157_2 := (HB.out.cell (bl_ w _ hx157_2)).trans hx157_2
        replace hx157_3 := (HB.out.cell (bl_ w _ hx157_3)).trans hx157_3
        replace hx157_4 := (HB.out.cell (bl_ w _ hx157_4)).trans hx157_4
        replace hx157_5 := (HB.out.cell (bl_ w _ hx157_5)).trans hx157_5
        replace hx157_6 := (HB.out.cell (bl_ w _ hx157_6)).trans hx157_6
        replace p157 := eq_true p157
        replace q157 := eq_true q157
        have p159 : 0 ≤ (x3_1 : Int) := of_decide_eq_true (by first | (with_reducible assumption) | assumption)
        have q159 : x3_1 < (l0.length : Int) := of_decide_eq_true (by first | (with_reducible assumption) | assumption)
        obtain ⟨ad159,e159,hx159_0,hx159_1,hx159_2,hx159_3,hx159_4,hx159_5,hx159_6⟩ := at_T88 HR0.out x3_1 p159 q159
        have hw159_6 := hx159_6
        have hw159_5 := hx159_5
        have hw159_4 := hx159_4
        have hw159_3 := hx159_3
        have hw159_2 := hx159_2
        have hw159_1 := hx159_1
        have hw159_0 := hx159_0
        obtain rfl : ad157 = ad159 := (by injection e159)
        replace hx159_0 := (HB.out.cell (bl_ w _ hx159_0)).trans hx159_0
        replace hx159_1 := (HB.out.cell (bl_ w _ hx159_1)).trans hx159_1
        replace hx159_2 := (HB.out.cell (bl_ w _ hx159_2)).trans hx159_2
        replace hx159_3 := (HB.out.cell (bl_ w _ hx159_3)).trans hx159_3
        replace hx159_4 := (HB.out.cell (bl_ w _ hx159_4)).trans hx159_4
        replace hx159_5 := (HB.out.cell (bl_ w _ hx159_5)).trans hx159_5
        replace hx159_6 := (HB.out.cell (bl_ w _ hx159_6)).trans hx159_6
        replace p159 := eq_true p159
        replace q159 := eq_true q159
        refine start_ (n:=43) (S:=fun w' => w'.cell? (ad157.add ((x3_1).toNat * 7)) = some (.int .i64 ((rd_T88 l0 x3_1).f0)) ∧ w'.cell? ⟨(ad157.add ((x3_1).toNat * 7)).block,(ad157.add ((x3_1).toNat * 7)).off + 1,none⟩ = some (.int .i64 ((rd_T88 l0 x3_1).f1.f0)) ∧ w'.cell? ⟨(ad157.add ((x3_1).toNat * 7)).block,(ad157.add ((x3_1).toNat * 7)).off + 2,none⟩ = some (.int .i64 ((rd_T88 l0 x3_1).f1.f1)) ∧ w'.cell? ⟨(ad157.add ((x3_1).toNat * 7)).block,(ad157.add ((x3_1).toNat * 7)).off + 3,none⟩ = some (.int .i64 ((rd_T88 l0 x3_1).f1.f2)) ∧ w'.cell? ⟨(ad157.add ((x3_1).toNat * 7)).block,(ad157.add ((x3_1).toNat * 7)).off + 4,none⟩ = some (.int .i64 ((rd_T88 l0 x3_1).f1.f3)) ∧ w'.cell? ⟨(ad157.add ((x3_1).toNat * 7)).block,(ad157.add ((x3_1).toNat * 7)).off + 5,none⟩ = some (.int .i64 ((rd_T88 l0 x3_1).f1.f4)) ∧ w'.cell? ⟨(ad157.add ((x3_1).toNat * 7)).block,(ad157.add ((x3_1).toNat * 7)).off + 6,none⟩ = some (.int .i64 ((rd_T88 l0 x3_1).f1.f5)) ∧ w'.cell? (ad157.add ((x3_1).toNat * 7)) = some (.int .i64 ((rd_T88 l0 x3_1).f0)) ∧ w'.cell? ⟨(ad157.add ((x3_1).toNat * 7)).block,(ad157.add ((x3_1).toNat * 7)).off + 1,none⟩ = some (.int .i64 ((rd_T88 l0 x3_1).f1.f0)) ∧ w'.cell? ⟨(ad157.add ((x3_1).toNat * 7)).block,(ad157.add ((x3_1).toNat * 7)).off + 2,none⟩ = some (.int .i64 ((rd_T88 l0 x3_1).f1.f1)) ∧ w'.cell? ⟨(ad157.add ((x3_1).toNat * 7)).block,(ad157.add ((x3_1).toNat * 7)).off + 3,none⟩ = some (.int .i64 ((rd_T88 l0 x3_1).f1.f2)) ∧ w'.cell? ⟨(ad157.add ((x3_1).toNat * 7)).block,(ad157.add ((x3_1).toNat * 7)).off + 4,none⟩ = some (.int .i64 ((rd_T88 l0 x3_1).f1.f3)) ∧ w'.cell? ⟨(ad157.add ((x3_1).toNat * 7)).block,(ad157.add ((x3_1).toNat * 7)).off + 5,none⟩ = some (.int .i64 ((rd_T88 l0 x3_1).f1.f4)) ∧ w'.cell? ⟨(ad157.add ((x3_1).toNat * 7)).block,(ad157.add ((x3_1).toNat * 7)).off + 6,none⟩ = some (.int .i64 ((rd_T88 l0 x3_1).f1.f5))) (ds := []) #[F,F,F,F,F,F,F,F,F,F,F,F,F,F,F,F,F,F,F,F,F,F,F,F,F,F,F,F,F,F,F,F,F,F,F,F,F,F,F,F,F,F,F] (by kernel_rfl) rfl rfl ⟨((HB.out.cell (bl_ w _ hw157_0)).trans hw157_0),((HB.out.cell (bl_ w _ hw157_1)).trans hw157_1),((HB.out.cell (bl_ w _ hw157_2)).trans hw157_2),((HB.out.cell (bl_ w _ hw157_3)).trans hw157_3),((HB.out.cell (bl_ w _ hw157_4)).trans hw157_4),((HB.out.cell (bl_ w _ hw157_5)).trans hw157_5),((HB.out.cell (bl_ w _ hw157_6)).trans hw157_6),((HB.out.cell (bl_ w _ hw159_0)).trans hw159_0),((HB.out.cell (bl_ w _ hw159_1)).trans hw159_1),((HB.out.cell (bl_ w _ hw159_2)).trans hw159_2),((HB.out.cell (bl_ w _ hw159_3)).trans hw159_3),((HB.out.cell (bl_ w _ hw159_4)).trans hw159_4),((HB.out.cell (bl_ w _ hw159_5)).trans hw159_5),((HB.out.cell (bl_ w _ hw159_6)).trans hw159_6)⟩ (fun hHeld => ?_); refine with_tabW spec_BucketsOK.tab6 spec_BucketsOK.bits6 (fun HT_ HW_ => ?_)
        generalize wr.drew = w23 at HB hx157_0 hx157_1 hx157_2 hx157_3 hx157_4 hx157_5 hx157_6 hx159_0 hx159_1 hx159_2 hx159_3 hx159_4 hx159_5 hx159_6 hHeld ⊢
        refine pure_ (i:=0) (N:=some 13) (v:=?_) (a':=?_) #[T,F,F,F,F,F,F,F,F,F,F,F,F,F,F,F,F,F,F,F,F,F,F,F,F,F,F,F,F,F,F,F,F,F,F,F,F,F,F,F,F,F,F] rfl rfl (any_of HT_.out (by kernel_rfl)) (fun _ _ _ h => h) (Or.inl ⟨by rfl,?_⟩) ?_ ?_
        rotate_left
        ·intro w'
         go_simp
         with_reducible rfl
        rotate_left
        ·simp only [Act.put,setIfInBounds_toArray,set_cons_zero,set_cons_succ,i64_w,i32_w]
         rfl
        refine pure_ (i:=1) (N:=some 14) (v:=?_) (a':=?_) #[T,T,F,F,F,F,F,F,F,F,F,F,F,F,F,F,F,F,F,F,F,F,F,F,F,F,F,F,F,F,F,F,F,F,F,F,F,F,F,F,F,F,F] rfl rfl (any_of HT_.out (by kernel_rfl)) (fun _ _ _ h => h) (Or.inl ⟨by rfl,?_⟩) ?_ ?_
        rotate_left
        ·intro w'
         go_simp
         with_reducible rfl
        rotate_left
        ·simp only [Act.put,setIfInBounds_toArray,set_cons_zero,set_cons_succ,i64_w,i32_w]
         rfl
        refine pure_ (i:=2) (N:=some 15) (v:=?_) (a':=?_) #[T,T,T,F,F,F,F,F,F,F,F,F,F,F,F,F,F,F,F,F,F,F,F,F,F,F,F,F,F,F,F,F,F,F,F,F,F,F,F,F,F,F,F] rfl rfl (any_of HT_.out (by kernel_rfl)) (fun _ _ _ h => h) (Or.inl ⟨by rfl,?_⟩) ?_ ?_
        rotate_left
        ·intro w'
         go_simp
         with_reducible rfl
        rotate_left
        ·simp only [Act.put,setIfInBounds_toArray,set_cons_zero,set_cons_succ,i64_w,i32_w]
         rfl
        refine pure_ (i:=3) (N:=some 16) (v:=?_) (a':=?_) #[T,T,T,T,F,F,F,F,F,F,F,F,F,F,F,F,F,F,F,F,F,F,F,F,F,F,F,F,F,F,F,F,F,F,F,F,F,F,F,F,F,F,F] rfl rfl (any_of HT_.out (by kernel_rfl)) (fun _ _ _ h => h) (Or.inl ⟨by rfl,?_⟩) ?_ ?_
        rotate_left
        ·intro w'
         go_simp
         with_reducible rfl
        rotate_left
        ·simp only [Act.put,setIfInBounds_toArray,set_cons_zero,set_cons_succ,i64_w,i32_w]
         rfl
        refine take_ (i:=4) (N:=some 17) (v:=?_) (a':=?_) #[T,T,T,T,T,F,F,F,F,F,F,F,F,F,F,F,F,F,F,F,F,F,F,F,F,F,F,F,F,F,F,F,F,F,F,F,F,F,F,F,F,F,F] rfl rfl (take_ofW HT_.out HW_.out (by kernel_rfl)) (fun _ _ _ h => h) (Or.inl ⟨by rfl,?_⟩) hHeld ?_ ?_
        rotate_left
        ·rintro w' ⟨s0,s1,s2,s3,s4,s5,s6,s7,s8,s9,s10,s11,s12,s13⟩
         go_simp
         with_reducible rfl
        rotate_left
        ·simp only [Act.put,setIfInBounds_toArray,set_cons_zero,set_cons_succ,i64_w,i32_w]
         rfl
        refine one_ (i:=5) (N:=some 18) #[T,T,T,T,T,T,F,F,F,F,F,F,F,F,F,F,F,F,F,F,F,F,F,F,F,F,F,F,F,F,F,F,F,F,F,F,F,F,F,F,F,F,F] rfl rfl (one_of HT_.out (by kernel_rfl)) (by decide) (fun K hK => ?_)
        refine goes_ Tryd.func46 (by kernel_rfl) rfl #[.int .i64 ((rd_T88 l0 x3_1).f0),.int .i64 0,.int .i64 99999] (by rfl) rfl rfl (by (try simp only [List.map_toArray,List.map_cons,List.map_nil]); first | done | rfl | (simp only [List.length_drop,List.length_take]; rfl)) ?_
        with_reducible refine (spec_l01In.calls ((rd_T88 l0 x3_1).f0) 0 99999 true _ A5.out).mono ?_
        rintro e w' ⟨rfl,⟨nd,rfl⟩⟩
        refine ⟨_,rfl,?_⟩
        refine hK.out _ _ ⟨((HB.out.cell (bl_ w _ hw157_0)).trans hw157_0),((HB.out.cell (bl_ w _ hw157_1)).trans hw157_1),((HB.out.cell (bl_ w _ hw157_2)).trans hw157_2),((HB.out.cell (bl_ w _ hw157_3)).trans hw157_3),((HB.out.cell (bl_ w _ hw157_4)).trans hw157_4),((HB.out.cell (bl_ w _ hw157_5)).trans hw157_5),((HB.out.cell (bl_ w _ hw157_6)).trans hw157_6),((HB.out.cell (bl_ w _ hw159_0)).trans hw159_0),((HB.out.cell (bl_ w _ hw159_1)).trans hw159_1),((HB.out.cell (bl_ w _ hw159_2)).trans hw159_2),((HB.out.cell (bl_ w _ hw159_3)).trans hw159_3),((HB.out.cell (bl_ w _ hw159_4)).trans hw159_4),((HB.out.cell (bl_ w _ hw159_5)).trans hw159_5),((HB.out.cell (bl_ w _ hw159_6)).trans hw159_6)⟩ (fun hHeld => ?_)
        clear hK K
        refine norm_ (a':=?_) ?_ ?_
        rotate_left
        ·show Act.put _ (some 18) _ = _
         simp only [Act.put,setIfInBounds_toArray,set_cons_zero,set_cons_succ,i64_w,i32_w]
         rfl
        refine pure_ (i:=6) (N:=some 19) (v:=?_) (a':=?_) #[T,T,T,T,T,T,T,F,F,F,F,F,F,F,F,F,F,F,F,F,F,F,F,F,F,F,F,F,F,F,F,F,F,F,F,F,F,F,F,F,F,F,F] rfl rfl (any_of HT_.out (by kernel_rfl)) (fun _ _ _ h => h) (Or.inl ⟨by rfl,?_⟩) ?_ ?_
        rotate_left
        ·intro w'
         go_simp
         with_reducible rfl
        rotate_left
        ·simp only [Act.put,setIfInBounds_toArray,set_cons_zero,set_cons_succ,i64_w,i32_w]
         rfl
        refine pure_ (i:=7) (N:=some 20) (v:=?_) (a':=?_) #[T,T,T,T,T,T,T,T,F,F,F,F,F,F,F,F,F,F,F,F,F,F,F,F,F,F,F,F,F,F,F,F,F,F,F,F,F,F,F,F,F,F,F] rfl rfl (any_of HT_.out (by kernel_rfl)) (fun _ _ _ h => h) (Or.inl ⟨by rfl,?_⟩) ?_ ?_
        rotate_left
        ·intro w'
         go_simp
         with_reducible rfl
        rotate_left
        ·simp only [Act.put,setIfInBounds_toArray,set_cons_zero,set_cons_succ,i64_w,i32_w]
         rfl
        refine pure_ (i:=8) (N:=some 21) (v:=?_) (a':=?_) #[T,T,T,T,T,T,T,T,T,F,F,F,F,F,F,F,F,F,F,F,F,F,F,F,F,F,F,F,F,F,F,F,F,F,F,F,F,F,F,F,F,F,F] rfl rfl (any_of HT_.out (by kernel_rfl)) (fun _ _ _ h => h) (Or.inl ⟨by rfl,?_⟩) ?_ ?_
        rotate_left
        ·intro w'
         go_simp
         with_reducible rfl
        rotate_left
        ·simp only [Act.put,setIfInBounds_toArray,set_cons_zero,set_cons_succ,i64_w,i32_w]
         rfl
        refine pure_ (i:=9) (N:=some 22) (v:=?_) (a':=?_) #[T,T,T,T,T,T,T,T,T,T,F,F,F,F,F,F,F,F,F,F,F,F,F,F,F,F,F,F,F,F,F,F,F,F,F,F,F,F,F,F,F,F,F] rfl rfl (any_of HT_.out (by kernel_rfl)) (fun _ _ _ h => h) (Or.inl ⟨by rfl,?_⟩) ?_ ?_
        rotate_left
        ·intro w'
         go_simp
         with_reducible rfl
        rotate_left
        ·simp only [Act.put,setIfInBounds_toArray,set_cons_zero,set_cons_succ,i64_w,i32_w]
         rfl
        refine pure_ (i:=10) (N:=some 23) (v:=?_) (a':=?_) #[T,T,T,T,T,T,T,T,T,T,T,F,F,F,F,F,F,F,F,F,F,F,F,F,F,F,F,F,F,F,F,F,F,F,F,F,F,F,F,F,F,F,F] rfl rfl (any_of HT_.out (by kernel_rfl)) (fun _ _ _ h => h) (Or.inl ⟨by rfl,?_⟩) ?_ ?_
        rotate_left
        ·intro w'
         go_simp
         with_reducible rfl
        rotate_left
        ·simp only [Act.put,setIfInBounds_toArray,set_cons_zero,set_cons_succ,i64_w,i32_w]
         rfl
        refine pure_ (i:=11) (N:=some 24) (v:=?_) (a':=?_) #[T,T,T,T,T,T,T,T,T,T,T,T,F,F,F,F,F,F,F,F,F,F,F,F,F,F,F,F,F,F,F,F,F,F,F,F,F,F,F,F,F,F,F] rfl rfl (any_of HT_.out (by kernel_rfl)) (fun _ _ _ h => h) (Or.inl ⟨by rfl,?_⟩) ?_ ?_
        rotate_left
        ·intro w'
         go_simp
         with_reducible rfl
        rotate_left
        ·simp only [Act.put,setIfInBounds_toArray,set_cons_zero,set_cons_succ,i64_w,i32_w]
         rfl
        refine take_ (i:=12) (N:=some 25) (v:=?_) (a':=?_) #[T,T,T,T,T,T,T,T,T,T,T,T,T,F,F,F,F,F,F,F,F,F,F,F,F,F,F,F,F,F,F,F,F,F,F,F,F,F,F,F,F,F,F] rfl rfl (take_ofW HT_.out HW_.out (by kernel_rfl)) (fun _ _ _ h => h) (Or.inl ⟨by rfl,?_⟩) hHeld ?_ ?_
        rotate_left
        ·rintro w' ⟨s0,s1,s2,s3,s4,s5,s6,s7,s8,s9,s10,s11,s12,s13⟩
         go_simp
         with_reducible rfl
        rotate_left
        ·simp only [Act.put,setIfInBounds_toArray,set_cons_zero,set_cons_succ,i64_w,i32_w]
         rfl
        refine one_ (i:=13) (N:=some 26) #[T,T,T,T,T,T,T,T,T,T,T,T,T,T,F,F,F,F,F,F,F,F,F,F,F,F,F,F,F,F,F,F,F,F,F,F,F,F,F,F,F,F,F] rfl rfl (one_of HT_.out (by kernel_rfl)) (by decide) (fun K hK => ?_)
        refine goes_ Tryd.func101 (by kernel_rfl) rfl #[.agg #[.int .i64 ((rd_T88 l0 x3_1).f1.f0),.int .i64 ((rd_T88 l0 x3_1).f1.f1),.int .i64 ((rd_T88 l0 x3_1).f1.f2),.int .i64 ((rd_T88 l0 x3_1).f1.f3),.int .i64 ((rd_T88 l0 x3_1).f1.f4),.int .i64 ((rd_T88 l0 x3_1).f1.f5)]] (by rfl) rfl rfl (by (try simp only [List.map_toArray,List.map_cons,List.map_nil]); first | done | rfl | (simp only [List.length_drop,List.length_take]; rfl)) ?_
        with_reducible refine (spec_AggOK.calls ((rd_T88 l0 x3_1).f1.f0) ((rd_T88 l0 x3_1).f1.f1) ((rd_T88 l0 x3_1).f1.f2) ((rd_T88 l0 x3_1).f1.f3) ((rd_T88 l0 x3_1).f1.f4) ((rd_T88 l0 x3_1).f1.f5) false _ A7.out).mono ?_
        rintro e w24 ⟨rfl,hb⟩
        refine ⟨_,rfl,?_⟩
        have n0_ := Aside0.mk (below_step (by repeat (first | (with_reducible first | exact HB.out | apply below_alloc | apply pw_below_drewN | apply below_drew1) | exact HB.out)) hb)
        clear HB
        have HB := n0_
        clear n0_
        (try clear hb)
        (try clear hb2)
        (try clear hk)
        (try clear hi)
        refine hK.out _ _ ⟨((HB.out.cell (bl_ w _ hw157_0)).trans hw157_0),((HB.out.cell (bl_ w _ hw157_1)).trans hw157_1),((HB.out.cell (bl_ w _ hw157_2)).trans hw157_2),((HB.out.cell (bl_ w _ hw157_3)).trans hw157_3),((HB.out.cell (bl_ w _ hw157_4)).trans hw157_4),((HB.out.cell (bl_ w _ hw157_5)).trans hw157_5),((HB.out.cell (bl_ w _ hw157_6)).trans hw157_6),((HB.out.cell (bl_ w _ hw159_0)).trans hw159_0),((HB.out.cell (bl_ w _ hw159_1)).trans hw159_1),((HB.out.cell (bl_ w _ hw159_2)).trans hw159_2),((HB.out.cell (bl_ w _ hw159_3)).trans hw159_3),((HB.out.cell (bl_ w _ hw159_4)).trans hw159_4),((HB.out.cell (bl_ w _ hw159_5)).trans hw159_5),((HB.out.cell (bl_ w _ hw159_6)).trans hw159_6)⟩ (fun hHeld => ?_)
        clear hK K
        refine norm_ (a':=?_) ?_ ?_
        rotate_left
        ·show Act.put _ (some 26) _ = _
         simp only [Act.put,setIfInBounds_toArray,set_cons_zero,set_cons_succ,i64_w,i32_w]
         rfl
        refine pure_ (i:=14) (N:=some 27) (v:=?_) (a':=?_) #[T,T,T,T,T,T,T,T,T,T,T,T,T,T,T,F,F,F,F,F,F,F,F,F,F,F,F,F,F,F,F,F,F,F,F,F,F,F,F,F,F,F,F] rfl rfl (any_of HT_.out (by kernel_rfl)) (fun _ _ _ h => h) (Or.inl ⟨by rfl,?_⟩) ?_ ?_
        rotate_left
        ·intro w'
         go_simp
         with_reducible rfl
        rotate_left
        ·simp only [Act.put,setIfInBounds_toArray,set_cons_zero,set_cons_succ,i64_w,i32_w]
         rfl
        refine pure_ (i:=15) (N:=some 28) (v:=?_) (a':=?_) #[T,T,T,T,T,T,T,T,T,T,T,T,T,T,T,T,F,F,F,F,F,F,F,F,F,F,F,F,F,F,F,F,F,F,F,F,F,F,F,F,F,F,F] rfl rfl (any_of HT_.out (by kernel_rfl)) (fun _ _ _ h => h) (Or.inl ⟨by rfl,?_⟩) ?_ ?_
        rotate_left
        ·intro w'
         go_simp
         with_reducible rfl
        rotate_left
        ·simp only [Act.put,setIfInBounds_toArray,set_cons_zero,set_cons_succ,i64_w,i32_w]
         rfl
        refine pure_ (i:=16) (N:=some 29) (v:=?_) (a':=?_) #[T,T,T,T,T,T,T,T,T,T,T,T,T,T,T,T,T,F,F,F,F,F,F,F,F,F,F,F,F,F,F,F,F,F,F,F,F,F,F,F,F,F,F] rfl rfl (any_of HT_.out (by kernel_rfl)) (fun _ _ _ h => h) (Or.inl ⟨by rfl,?_⟩) ?_ ?_
        rotate_left
        ·intro w'
         go_simp
         with_reducible rfl
        rotate_left
        ·simp only [Act.put,setIfInBounds_toArray,set_cons_zero,set_cons_succ,i64_w,i32_w]
         rfl
        refine pure_ (i:=17) (N:=some 30) (v:=undef) (a':=?_) #[T,T,T,T,T,T,T,T,T,T,T,T,T,T,T,T,T,T,F,F,F,F,F,F,F,F,F,F,F,F,F,F,F,F,F,F,F,F,F,F,F,F,F] rfl rfl (any_of HT_.out (by kernel_rfl)) (fun _ _ _ h => h) (Or.inr ⟨by rfl,rfl⟩) ?_ ?_
        rotate_left
        ·simp only [Act.put,setIfInBounds_toArray,set_cons_zero,set_cons_succ,i64_w,i32_w]
         rfl
        refine pure_ (i:=18) (N:=some 31) (v:=undef) (a':=?_) #[T,T,T,T,T,T,T,T,T,T,T,T,T,T,T,T,T,T,T,F,F,F,F,F,F,F,F,F,F,F,F,F,F,F,F,F,F,F,F,F,F,F,F] rfl rfl (any_of HT_.out (by kernel_rfl)) (fun _ _ _ h => h) (Or.inr ⟨by rfl,rfl⟩) ?_ ?_
        rotate_left
        ·simp only [Act.put,setIfInBounds_toArray,set_cons_zero,set_cons_succ,i64_w,i32_w]
         rfl
        refine pure_ (i:=19) (N:=some 32) (v:=undef) (a':=?_) #[T,T,T,T,T,T,T,T,T,T,T,T,T,T,T,T,T,T,T,T,F,F,F,F,F,F,F,F,F,F,F,F,F,F,F,F,F,F,F,F,F,F,F] rfl rfl (any_of HT_.out (by kernel_rfl)) (fun _ _ _ h => h) (Or.inr ⟨by rfl,rfl⟩) ?_ ?_
        rotate_left
        ·simp only [Act.put,setIfInBounds_toArray,set_cons_zero,set_cons_succ,i64_w,i32_w]
         rfl
        refine pure_ (i:=20) (N:=some 33) (v:=undef) (a':=?_) #[T,T,T,T,T,T,T,T,T,T,T,T,T,T,T,T,T,T,T,T,T,F,F,F,F,F,F,F,F,F,F,F,F,F,F,F,F,F,F,F,F,F,F] rfl rfl (any_of HT_.out (by kernel_rfl)) (fun _ _ _ h => h) (Or.inr ⟨by rfl,rfl⟩) ?_ ?_
        rotate_left
        ·simp only [Act.put,setIfInBounds_toArray,set_cons_zero,set_cons_succ,i64_w,i32_w]
         rfl
        refine pure_ (i:=21) (N:=some 34) (v:=undef) (a':=?_) #[T,T,T,T,T,T,T,T,T,T,T,T,T,T,T,T,T,T,T,T,T,T,F,F,F,F,F,F,F,F,F,F,F,F,F,F,F,F,F,F,F,F,F] rfl rfl (any_of HT_.out (by kernel_rfl)) (fun _ _ _ h => h) (Or.inr ⟨by rfl,rfl⟩) ?_ ?_
        rotate_left
        ·simp only [Act.put,setIfInBounds_toArray,set_cons_zero,set_cons_succ,i64_w,i32_w]
         rfl
        refine pure_ (i:=22) (N:=some 35) (v:=undef) (a':=?_) #[T,T,T,T,T,T,T,T,T,T,T,T,T,T,T,T,T,T,T,T,T,T,T,F,F,F,F,F,F,F,F,F,F,F,F,F,F,F,F,F,F,F,F] rfl rfl (any_of HT_.out (by kernel_rfl)) (fun _ _ _ h => h) (Or.inr ⟨by rfl,rfl⟩) ?_ ?_
        rotate_left
        ·simp only [Act.put,setIfInBounds_toArray,set_cons_zero,set_cons_succ,i64_w,i32_w]
         rfl
        refine pure_ (i:=23) (N:=some 36) (v:=undef) (a':=?_) #[T,T,T,T,T,T,T,T,T,T,T,T,T,T,T,T,T,T,T,T,T,T,T,T,F,F,F,F,F,F,F,F,F,F,F,F,F,F,F,F,F,F,F] rfl rfl (any_of HT_.out (by kernel_rfl)) (fun _ _ _ h => h) (Or.inr ⟨by rfl,rfl⟩) ?_ ?_
        rotate_left
        ·simp only [Act.put,setIfInBounds_toArray,set_cons_zero,set_cons_succ,i64_w,i32_w]
         rfl
        refine pure_ (i:=24) (N:=some 37) (v:=?_) (a':=?_) #[T,T,T,T,T,T,T,T,T,T,T,T,T,T,T,T,T,T,T,T,T,T,T,T,T,F,F,F,F,F,F,F,F,F,F,F,F,F,F,F,F,F,F] rfl rfl (any_of HT_.out (by kernel_rfl)) (fun _ _ _ h => h) (Or.inl ⟨by rfl,?_⟩) ?_ ?_
        rotate_left
        ·intro w'
         go_simp
         with_reducible rfl
        rotate_left
        ·simp only [Act.put,setIfInBounds_toArray,set_cons_zero,set_cons_succ,i64_w,i32_w]
         rfl
        refine pure_ (i:=25) (N:=some 38) (v:=?_) (a':=?_) #[T,T,T,T,T,T,T,T,T,T,T,T,T,T,T,T,T,T,T,T,T,T,T,T,T,T,F,F,F,F,F,F,F,F,F,F,F,F,F,F,F,F,F] rfl rfl (any_of HT_.out (by kernel_rfl)) (fun _ _ _ h => h) (Or.inl ⟨by rfl,?_⟩) ?_ ?_
        rotate_left
        ·intro w'
         go_simp
         with_reducible rfl
        rotate_left
        ·simp only [Act.put,setIfInBounds_toArray,set_cons_zero,set_cons_succ,i64_w,i32_w]
         rfl
        refine pure_ (i:=26) (N:=some 39) (v:=undef) (a':=?_) #[T,T,T,T,T,T,T,T,T,T,T,T,T,T,T,T,T,T,T,T,T,T,T,T,T,T,T,F,F,F,F,F,F,F,F,F,F,F,F,F,F,F,F] rfl rfl (any_of HT_.out (by kernel_rfl)) (fun _ _ _ h => h) (Or.inr ⟨by rfl,rfl⟩) ?_ ?_
        rotate_left
        ·simp only [Act.put,setIfInBounds_toArray,set_cons_zero,set_cons_succ,i64_w,i32_w]
         rfl
        refine pure_ (i:=27) (N:=some 40) (v:=undef) (a':=?_) #[T,T,T,T,T,T,T,T,T,T,T,T,T,T,T,T,T,T,T,T,T,T,T,T,T,T,T,T,F,F,F,F,F,F,F,F,F,F,F,F,F,F,F] rfl rfl (any_of HT_.out (by kernel_rfl)) (fun _ _ _ h => h) (Or.inr ⟨by rfl,rfl⟩) ?_ ?_
        rotate_left
        ·simp only [Act.put,setIfInBounds_toArray,set_cons_zero,set_cons_succ,i64_w,i32_w]
         rfl
        refine pure_ (i:=28) (N:=some 41) (v:=undef) (a':=?_) #[T,T,T,T,T,T,T,T,T,T,T,T,T,T,T,T,T,T,T,T,T,T,T,T,T,T,T,T,T,F,F,F,F,F,F,F,F,F,F,F,F,F,F] rfl rfl (any_of HT_.out (by kernel_rfl)) (fun _ _ _ h => h) (Or.inr ⟨by rfl,rfl⟩) ?_ ?_
        rotate_left
        ·simp only [Act.put,setIfInBounds_toArray,set_cons_zero,set_cons_succ,i64_w,i32_w]
         rfl
        refine pure_ (i:=29) (N:=some 42) (v:=undef) (a':=?_) #[T,T,T,T,T,T,T,T,T,T,T,T,T,T,T,T,T,T,T,T,T,T,T,T,T,T,T,T,T,T,F,F,F,F,F,F,F,F,F,F,F,F,F] rfl rfl (any_of HT_.out (by kernel_rfl)) (fun _ _ _ h => h) (Or.inr ⟨by rfl,rfl⟩) ?_ ?_
        rotate_left
        ·simp only [Act.put,setIfInBounds_toArray,set_cons_zero,set_cons_succ,i64_w,i32_w]
         rfl
        refine pure_ (i:=30) (N:=some 43) (v:=undef) (a':=?_) #[T,T,T,T,T,T,T,T,T,T,T,T,T,T,T,T,T,T,T,T,T,T,T,T,T,T,T,T,T,T,T,F,F,F,F,F,F,F,F,F,F,F,F] rfl rfl (any_of HT_.out (by kernel_rfl)) (fun _ _ _ h => h) (Or.inr ⟨by rfl,rfl⟩) ?_ ?_
        rotate_left
        ·simp only [Act.put,setIfInBounds_toArray,set_cons_zero,set_cons_succ,i64_w,i32_w]
         rfl
        refine pure_ (i:=31) (N:=some 44) (v:=undef) (a':=?_) #[T,T,T,T,T,T,T,T,T,T,T,T,T,T,T,T,T,T,T,T,T,T,T,T,T,T,T,T,T,T,T,T,F,F,F,F,F,F,F,F,F,F,F] rfl rfl (any_of HT_.out (by kernel_rfl)) (fun _ _ _ h => h) (Or.inr ⟨by rfl,rfl⟩) ?_ ?_
        rotate_left
        ·simp only [Act.put,setIfInBounds_toArray,set_cons_zero,set_cons_succ,i64_w,i32_w]
         rfl
        refine pure_ (i:=32) (N:=some 45) (v:=undef) (a':=?_) #[T,T,T,T,T,T,T,T,T,T,T,T,T,T,T,T,T,T,T,T,T,T,T,T,T,T,T,T,T,T,T,T,T,F,F,F,F,F,F,F,F,F,F] rfl rfl (any_of HT_.out (by kernel_rfl)) (fun _ _ _ h => h) (Or.inr ⟨by rfl,rfl⟩) ?_ ?_
        rotate_left
        ·simp only [Act.put,setIfInBounds_toArray,set_cons_zero,set_cons_succ,i64_w,i32_w]
         rfl
        refine pure_ (i:=33) (N:=some 46) (v:=undef) (a':=?_) #[T,T,T,T,T,T,T,T,T,T,T,T,T,T,T,T,T,T,T,T,T,T,T,T,T,T,T,T,T,T,T,T,T,T,F,F,F,F,F,F,F,F,F] rfl rfl (any_of HT_.out (by kernel_rfl)) (fun _ _ _ h => h) (Or.inr ⟨by rfl,rfl⟩) ?_ ?_
        rotate_left
        ·simp only [Act.put,setIfInBounds_toArray,set_cons_zero,set_cons_succ,i64_w,i32_w]
         rfl
        refine pure_ (i:=34) (N:=some 47) (v:=undef) (a':=?_) #[T,T,T,T,T,T,T,T,T,T,T,T,T,T,T,T,T,T,T,T,T,T,T,T,T,T,T,T,T,T,T,T,T,T,T,F,F,F,F,F,F,F,F] rfl rfl (any_of HT_.out (by kernel_rfl)) (fun _ _ _ h => h) (Or.inr ⟨by rfl,rfl⟩) ?_ ?_
        rotate_left
        ·simp only [Act.put,setIfInBounds_toArray,set_cons_zero,set_cons_succ,i64_w,i32_w]
         rfl
        refine pure_ (i:=35) (N:=some 48) (v:=undef) (a':=?_) #[T,T,T,T,T,T,T,T,T,T,T,T,T,T,T,T,T,T,T,T,T,T,T,T,T,T,T,T,T,T,T,T,T,T,T,T,F,F,F,F,F,F,F] rfl rfl (any_of HT_.out (by kernel_rfl)) (fun _ _ _ h => h) (Or.inr ⟨by rfl,rfl⟩) ?_ ?_
        rotate_left
        ·simp only [Act.put,setIfInBounds_toArray,set_cons_zero,set_cons_succ,i64_w,i32_w]
         rfl
        refine pure_ (i:=36) (N:=some 49) (v:=undef) (a':=?_) #[T,T,T,T,T,T,T,T,T,T,T,T,T,T,T,T,T,T,T,T,T,T,T,T,T,T,T,T,T,T,T,T,T,T,T,T,T,F,F,F,F,F,F] rfl rfl (any_of HT_.out (by kernel_rfl)) (fun _ _ _ h => h) (Or.inr ⟨by rfl,rfl⟩) ?_ ?_
        rotate_left
        ·simp only [Act.put,setIfInBounds_toArray,set_cons_zero,set_cons_succ,i64_w,i32_w]
         rfl
        refine pure_ (i:=37) (N:=some 50) (v:=undef) (a':=?_) #[T,T,T,T,T,T,T,T,T,T,T,T,T,T,T,T,T,T,T,T,T,T,T,T,T,T,T,T,T,T,T,T,T,T,T,T,T,T,F,F,F,F,F] rfl rfl (any_of HT_.out (by kernel_rfl)) (fun _ _ _ h => h) (Or.inr ⟨by rfl,rfl⟩) ?_ ?_
        rotate_left
        ·simp only [Act.put,setIfInBounds_toArray,set_cons_zero,set_cons_succ,i64_w,i32_w]
         rfl
        refine pure_ (i:=38) (N:=some 51) (v:=undef) (a':=?_) #[T,T,T,T,T,T,T,T,T,T,T,T,T,T,T,T,T,T,T,T,T,T,T,T,T,T,T,T,T,T,T,T,T,T,T,T,T,T,T,F,F,F,F] rfl rfl (any_of HT_.out (by kernel_rfl)) (fun _ _ _ h => h) (Or.inr ⟨by rfl,rfl⟩) ?_ ?_
        rotate_left
        ·simp only [Act.put,setIfInBounds_toArray,set_cons_zero,set_cons_succ,i64_w,i32_w]
         rfl
        refine pure_ (i:=39) (N:=some 52) (v:=undef) (a':=?_) #[T,T,T,T,T,T,T,T,T,T,T,T,T,T,T,T,T,T,T,T,T,T,T,T,T,T,T,T,T,T,T,T,T,T,T,T,T,T,T,T,F,F,F] rfl rfl (any_of HT_.out (by kernel_rfl)) (fun _ _ _ h => h) (Or.inr ⟨by rfl,rfl⟩) ?_ ?_
        rotate_left
        ·simp only [Act.put,setIfInBounds_toArray,set_cons_zero,set_cons_succ,i64_w,i32_w]
         rfl
        refine pure_ (i:=40) (N:=some 53) (v:=undef) (a':=?_) #[T,T,T,T,T,T,T,T,T,T,T,T,T,T,T,T,T,T,T,T,T,T,T,T,T,T,T,T,T,T,T,T,T,T,T,T,T,T,T,T,T,F,F] rfl rfl (any_of HT_.out (by kernel_rfl)) (fun _ _ _ h => h) (Or.inr ⟨by rfl,rfl⟩) ?_ ?_
        rotate_left
        ·simp only [Act.put,setIfInBounds_toArray,set_cons_zero,set_cons_succ,i64_w,i32_w]
         rfl
        refine pure_ (i:=41) (N:=some 54) (v:=undef) (a':=?_) #[T,T,T,T,T,T,T,T,T,T,T,T,T,T,T,T,T,T,T,T,T,T,T,T,T,T,T,T,T,T,T,T,T,T,T,T,T,T,T,T,T,T,F] rfl rfl (any_of HT_.out (by kernel_rfl)) (fun _ _ _ h => h) (Or.inr ⟨by rfl,rfl⟩) ?_ ?_
        rotate_left
        ·simp only [Act.put,setIfInBounds_toArray,set_cons_zero,set_cons_succ,i64_w,i32_w]
         rfl
        refine pure_ (i:=42) (N:=some 55) (v:=?_) (a':=?_) #[T,T,T,T,T,T,T,T,T,T,T,T,T,T,T,T,T,T,T,T,T,T,T,T,T,T,T,T,T,T,T,T,T,T,T,T,T,T,T,T,T,T,T] rfl rfl (any_of HT_.out (by kernel_rfl)) (fun _ _ _ h => h) (Or.inl ⟨by rfl,?_⟩) ?_ ?_
        rotate_left
        ·intro w'
         go_simp
         with_reducible rfl
        rotate_left
        ·simp only [Act.put,setIfInBounds_toArray,set_cons_zero,set_cons_succ,i64_w,i32_w]
         rfl
        refine done_ (done_of HT_.out (by kernel_rfl)) ?_
        try go_wp2
        go_ret
        exact ⟨by first | rfl | (simp only [i64_w,i32_w] <;> rfl) | (simp [errW_none,errW_some] <;> rfl) | (simp [*,errW_none,errW_some] <;> rfl),by repeat (first | (with_reducible first | exact HB.out | apply below_alloc | apply pw_below_drewN | apply below_drew1) | exact HB.out)⟩
      ·replace c6 := Bool.eq_false_iff.mpr c6
       subst c6
       have H1 : (some false) = some r := by rw [if_neg (show ¬ (false = true) by decide)] at H; exact H
       clear H
       have H := H1
       clear H1
       obtain rfl := Option.some.inj H
       try go_wp2
       have n0_ := Aside0.mk (below_drew1 HB.out)
       clear HB
       have HB := n0_
       clear n0_
       have p157 : 0 ≤ (x3_1 : Int) := of_decide_eq_true (by first | (with_reducible assumption) | assumption)
       have q157 : x3_1 < (l0.length : Int) := of_decide_eq_true (by first | (with_reducible assumption) | assumption)
       obtain ⟨ad157,e157,hx157_0,hx157_1,hx157_2,hx157_3,hx157_4,hx157_5,hx157_6⟩ := at_T88 HR0.out x3_1 p157 q157
       have hw157_6 := hx157_6
       have hw157_5 := hx157_5
       have hw157_4 := hx157_4
       have hw157_3 := hx157_3
       have hw157_2 := hx157_2
       have hw157_1 := hx157_1
       have hw157_0 := hx157_0
       cases e157
       replace hx157_0 := (HB.out.cell (bl_ w _ hx157_0)).trans hx157_0
       replace hx157_1 := (HB.out.cell (bl_ w _ hx157_1)).trans hx157_1
       replace hx157_2 := (HB.out.cell (bl_ w _ hx157_2)).trans hx157_2
       replace hx157_3 := (HB.out.cell (bl_ w _ hx157_3)).trans hx157_3
       replace hx157_4 := (HB.out.cell (bl_ w _ hx157_4)).trans hx157_4
       replace hx157_5 := (HB.out.cell (bl_ w _ hx157_5)).trans hx157_5
       replace hx157_6 := (HB.out.cell (bl_ w _ hx157_6)).trans hx157_6
       replace p157 := eq_true p157
       replace q157 := eq_true q157
       refine start_ (n:=43) (S:=fun w' => w'.cell? (ad157.add ((x3_1).toNat * 7)) = some (.int .i64 ((rd_T88 l0 x3_1).f0)) ∧ w'.cell? ⟨(ad157.add ((x3_1).toNat * 7)).block,(ad157.add ((x3_1).toNat * 7)).off + 1,none⟩ = some (.int .i64 ((rd_T88 l0 x3_1).f1.f0)) ∧ w'.cell? ⟨(ad157.add ((x3_1).toNat * 7)).block,(ad157.add ((x3_1).toNat * 7)).off + 2,none⟩ = some (.int .i64 ((rd_T88 l0 x3_1).f1.f1)) ∧ w'.cell? ⟨(ad157.add ((x3_1).toNat * 7)).block,(ad157.add ((x3_1).toNat * 7)).off + 3,none⟩ = some (.int .i64 ((rd_T88 l0 x3_1).f1.f2)) ∧ w'.cell? ⟨(ad157.add ((x3_1).toNat * 7)).block,(ad157.add ((x3_1).toNat * 7)).off + 4,none⟩ = some (.int .i64 ((rd_T88 l0 x3_1).f1.f3)) ∧ w'.cell? ⟨(ad157.add ((x3_1).toNat * 7)).block,(ad157.add ((x3_1).toNat * 7)).off + 5,none⟩ = some (.int .i64 ((rd_T88 l0 x3_1).f1.f4)) ∧ w'.cell? ⟨(ad157.add ((x3_1).toNat * 7)).block,(ad157.add ((x3_1).toNat * 7)).off + 6,none⟩ = some (.int .i64 ((rd_T88 l0 x3_1).f1.f5))) (ds := []) #[F,F,F,F,F,F,F,F,F,F,F,F,F,F,F,F,F,F,F,F,F,F,F,F,F,F,F,F,F,F,F,F,F,F,F,F,F,F,F,F,F,F,F] (by kernel_rfl) rfl rfl ⟨((HB.out.cell (bl_ w _ hw157_0)).trans hw157_0),((HB.out.cell (bl_ w _ hw157_1)).trans hw157_1),((HB.out.cell (bl_ w _ hw157_2)).trans hw157_2),((HB.out.cell (bl_ w _ hw157_3)).trans hw157_3),((HB.out.cell (bl_ w _ hw157_4)).trans hw157_4),((HB.out.cell (bl_ w _ hw157_5)).trans hw157_5),((HB.out.cell (bl_ w _ hw157_6)).trans hw157_6)⟩ (fun hHeld => ?_); refine with_tabW spec_BucketsOK.tab6 spec_BucketsOK.bits6 (fun HT_ HW_ => ?_)
       generalize wr.drew = w25 at HB hx157_0 hx157_1 hx157_2 hx157_3 hx157_4 hx157_5 hx157_6 hHeld ⊢
       refine pure_ (i:=0) (N:=some 13) (v:=?_) (a':=?_) #[T,F,F,F,F,F,F,F,F,F,F,F,F,F,F,F,F,F,F,F,F,F,F,F,F,F,F,F,F,F,F,F,F,F,F,F,F,F,F,F,F,F,F] rfl rfl (any_of HT_.out (by kernel_rfl)) (fun _ _ _ h => h) (Or.inl ⟨by rfl,?_⟩) ?_ ?_
       rotate_left
       ·intro w'
        go_simp
        with_reducible rfl
       rotate_left
       ·simp only [Act.put,setIfInBounds_toArray,set_cons_zero,set_cons_succ,i64_w,i32_w]
        rfl
       refine pure_ (i:=1) (N:=some 14) (v:=?_) (a':=?_) #[T,T,F,F,F,F,F,F,F,F,F,F,F,F,F,F,F,F,F,F,F,F,F,F,F,F,F,F,F,F,F,F,F,F,F,F,F,F,F,F,F,F,F] rfl rfl (any_of HT_.out (by kernel_rfl)) (fun _ _ _ h => h) (Or.inl ⟨by rfl,?_⟩) ?_ ?_
       rotate_left
       ·intro w'
        go_simp
        with_reducible rfl
       rotate_left
       ·simp only [Act.put,setIfInBounds_toArray,set_cons_zero,set_cons_succ,i64_w,i32_w]
        rfl
       refine pure_ (i:=2) (N:=some 15) (v:=?_) (a':=?_) #[T,T,T,F,F,F,F,F,F,F,F,F,F,F,F,F,F,F,F,F,F,F,F,F,F,F,F,F,F,F,F,F,F,F,F,F,F,F,F,F,F,F,F] rfl rfl (any_of HT_.out (by kernel_rfl)) (fun _ _ _ h => h) (Or.inl ⟨by rfl,?_⟩) ?_ ?_
       rotate_left
       ·intro w'
        go_simp
        with_reducible rfl
       rotate_left
       ·simp only [Act.put,setIfInBounds_toArray,set_cons_zero,set_cons_succ,i64_w,i32_w]
        rfl
       refine pure_ (i:=3) (N:=some 16) (v:=?_) (a':=?_) #[T,T,T,T,F,F,F,F,F,F,F,F,F,F,F,F,F,F,F,F,F,F,F,F,F,F,F,F,F,F,F,F,F,F,F,F,F,F,F,F,F,F,F] rfl rfl (any_of HT_.out (by kernel_rfl)) (fun _ _ _ h => h) (Or.inl ⟨by rfl,?_⟩) ?_ ?_
       rotate_left
       ·intro w'
        go_simp
        with_reducible rfl
       rotate_left
       ·simp only [Act.put,setIfInBounds_toArray,set_cons_zero,set_cons_succ,i64_w,i32_w]
        rfl
       refine take_ (i:=4) (N:=some 17) (v:=?_) (a':=?_) #[T,T,T,T,T,F,F,F,F,F,F,F,F,F,F,F,F,F,F,F,F,F,F,F,F,F,F,F,F,F,F,F,F,F,F,F,F,F,F,F,F,F,F] rfl rfl (take_ofW HT_.out HW_.out (by kernel_rfl)) (fun _ _ _ h => h) (Or.inl ⟨by rfl,?_⟩) hHeld ?_ ?_
       rotate_left
       ·rintro w' ⟨s0,s1,s2,s3,s4,s5,s6⟩
        go_simp
        with_reducible rfl
       rotate_left
       ·simp only [Act.put,setIfInBounds_toArray,set_cons_zero,set_cons_succ,i64_w,i32_w]
        rfl
       refine one_ (i:=5) (N:=some 18) #[T,T,T,T,T,T,F,F,F,F,F,F,F,F,F,F,F,F,F,F,F,F,F,F,F,F,F,F,F,F,F,F,F,F,F,F,F,F,F,F,F,F,F] rfl rfl (one_of HT_.out (by kernel_rfl)) (by decide) (fun K hK => ?_)
       refine goes_ Tryd.func46 (by kernel_rfl) rfl #[.int .i64 ((rd_T88 l0 x3_1).f0),.int .i64 0,.int .i64 99999] (by rfl) rfl rfl (by (try simp only [List.map_toArray,List.map_cons,List.map_nil]); first | done | rfl | (simp only [List.length_drop,List.length_take]; rfl)) ?_
       with_reducible refine (spec_l01In.calls ((rd_T88 l0 x3_1).f0) 0 99999 false _ A5.out).mono ?_
       rintro e w' ⟨rfl,⟨nd,rfl⟩⟩
       refine ⟨_,rfl,?_⟩
       refine hK.out _ _ ⟨((HB.out.cell (bl_ w _ hw157_0)).trans hw157_0),((HB.out.cell (bl_ w _ hw157_1)).trans hw157_1),((HB.out.cell (bl_ w _ hw157_2)).trans hw157_2),((HB.out.cell (bl_ w _ hw157_3)).trans hw157_3),((HB.out.cell (bl_ w _ hw157_4)).trans hw157_4),((HB.out.cell (bl_ w _ hw157_5)).trans hw157_5),((HB.out.cell (bl_ w _ hw157_6)).trans hw157_6)⟩ (fun hHeld => ?_)
       clear hK K
       refine norm_ (a':=?_) ?_ ?_
       rotate_left
       ·show Act.put _ (some 18) _ = _
        simp only [Act.put,setIfInBounds_toArray,set_cons_zero,set_cons_succ,i64_w,i32_w]
        rfl
       refine pure_ (i:=6) (N:=some 19) (v:=?_) (a':=?_) #[T,T,T,T,T,T,T,F,F,F,F,F,F,F,F,F,F,F,F,F,F,F,F,F,F,F,F,F,F,F,F,F,F,F,F,F,F,F,F,F,F,F,F] rfl rfl (any_of HT_.out (by kernel_rfl)) (fun _ _ _ h => h) (Or.inl ⟨by rfl,?_⟩) ?_ ?_
       rotate_left
       ·intro w'
        go_simp
        with_reducible rfl
       rotate_left
       ·simp only [Act.put,setIfInBounds_toArray,set_cons_zero,set_cons_succ,i64_w,i32_w]
        rfl
       refine pure_ (i:=7) (N:=some 20) (v:=?_) (a':=?_) #[T,T,T,T,T,T,T,T,F,F,F,F,F,F,F,F,F,F,F,F,F,F,F,F,F,F,F,F,F,F,F,F,F,F,F,F,F,F,F,F,F,F,F] rfl rfl (any_of HT_.out (by kernel_rfl)) (fun _ _ _ h => h) (Or.inl ⟨by rfl,?_⟩) ?_ ?_
       rotate_left
       ·intro w'
        go_simp
        with_reducible rfl
       rotate_left
       ·simp only [Act.put,setIfInBounds_toArray,set_cons_zero,set_cons_succ,i64_w,i32_w]
        rfl
       refine pure_ (i:=8) (N:=some 21) (v:=undef) (a':=?_) #[T,T,T,T,T,T,T,T,T,F,F,F,F,F,F,F,F,F,F,F,F,F,F,F,F,F,F,F,F,F,F,F,F,F,F,F,F,F,F,F,F,F,F] rfl rfl (any_of HT_.out (by kernel_rfl)) (fun _ _ _ h => h) (Or.inr ⟨by rfl,rfl⟩) ?_ ?_
       rotate_left
       ·simp only [Act.put,setIfInBounds_toArray,set_cons_zero,set_cons_succ,i64_w,i32_w]
        rfl
       refine pure_ (i:=9) (N:=some 22) (v:=undef) (a':=?_) #[T,T,T,T,T,T,T,T,T,T,F,F,F,F,F,F,F,F,F,F,F,F,F,F,F,F,F,F,F,F,F,F,F,F,F,F,F,F,F,F,F,F,F] rfl rfl (any_of HT_.out (by kernel_rfl)) (fun _ _ _ h => h) (Or.inr ⟨by rfl,rfl⟩) ?_ ?_
       rotate_left
       ·simp only [Act.put,setIfInBounds_toArray,set_cons_zero,set_cons_succ,i64_w,i32_w]
        rfl
       refine pure_ (i:=10) (N:=some 23) (v:=undef) (a':=?_) #[T,T,T,T,T,T,T,T,T,T,T,F,F,F,F,F,F,F,F,F,F,F,F,F,F,F,F,F,F,F,F,F,F,F,F,F,F,F,F,F,F,F,F] rfl rfl (any_of HT_.out (by kernel_rfl)) (fun _ _ _ h => h) (Or.inr ⟨by rfl,rfl⟩) ?_ ?_
       rotate_left
       ·simp only [Act.put,setIfInBounds_toArray,set_cons_zero,set_cons_succ,i64_w,i32_w]
        rfl
       refine pure_ (i:=11) (N:=some 24) (v:=undef) (a':=?_) #[T,T,T,T,T,T,T,T,T,T,T,T,F,F,F,F,F,F,F,F,F,F,F,F,F,F,F,F,F,F,F,F,F,F,F,F,F,F,F,F,F,F,F] rfl rfl (any_of HT_.out (by kernel_rfl)) (fun _ _ _ h => h) (Or.inr ⟨by rfl,rfl⟩) ?_ ?_
       rotate_left
       ·simp only [Act.put,setIfInBounds_toArray,set_cons_zero,set_cons_succ,i64_w,i32_w]
        rfl
       refine pure_ (i:=12) (N:=some 25) (v:=undef) (a':=?_) #[T,T,T,T,T,T,T,T,T,T,T,T,T,F,F,F,F,F,F,F,F,F,F,F,F,F,F,F,F,F,F,F,F,F,F,F,F,F,F,F,F,F,F] rfl rfl (any_of HT_.out (by kernel_rfl)) (fun _ _ _ h => h) (Or.inr ⟨by rfl,rfl⟩) ?_ ?_
       rotate_left
       ·simp only [Act.put,setIfInBounds_toArray,set_cons_zero,set_cons_succ,i64_w,i32_w]
        rfl
       refine pure_ (i:=13) (N:=some 26) (v:=undef) (a':=?_) #[T,T,T,T,T,T,T,T,T,T,T,T,T,T,F,F,F,F,F,F,F,F,F,F,F,F,F,F,F,F,F,F,F,F,F,F,F,F,F,F,F,F,F] rfl rfl (any_of HT_.out (by kernel_rfl)) (fun _ _ _ h => h) (Or.inr ⟨by rfl,rfl⟩) ?_ ?_
       rotate_left
       ·simp only [Act.put,setIfInBounds_toArray,set_cons_zero,set_cons_succ,i64_w,i32_w]
        rfl
       refine pure_ (i:=14) (N:=some 27) (v:=undef) (a':=?_) #[T,T,T,T,T,T,T,T,T,T,T,T,T,T,T,F,F,F,F,F,F,F,F,F,F,F,F,F,F,F,F,F,F,F,F,F,F,F,F,F,F,F,F] rfl rfl (any_of HT_.out (by kernel_rfl)) (fun _ _ _ h => h) (Or.inr ⟨by rfl,rfl⟩) ?_ ?_
       rotate_left
       ·simp only [Act.put,setIfInBounds_toArray,set_cons_zero,set_cons_succ,i64_w,i32_w]
        rfl
       refine pure_ (i:=15) (N:=some 28) (v:=?_) (a':=?_) #[T,T,T,T,T,T,T,T,T,T,T,T,T,T,T,T,F,F,F,F,F,F,F,F,F,F,F,F,F,F,F,F,F,F,F,F,F,F,F,F,F,F,F] rfl rfl (any_of HT_.out (by kernel_rfl)) (fun _ _ _ h => h) (Or.inl ⟨by rfl,?_⟩) ?_ ?_
       rotate_left
       ·intro w'
        go_simp
        with_reducible rfl
       rotate_left
       ·simp only [Act.put,setIfInBounds_toArray,set_cons_zero,set_cons_succ,i64_w,i32_w]
        rfl
       refine pure_ (i:=16) (N:=some 29) (v:=?_) (a':=?_) #[T,T,T,T,T,T,T,T,T,T,T,T,T,T,T,T,T,F,F,F,F,F,F,F,F,F,F,F,F,F,F,F,F,F,F,F,F,F,F,F,F,F,F] rfl rfl (any_of HT_.out (by kernel_rfl)) (fun _ _ _ h => h) (Or.inl ⟨by rfl,?_⟩) ?_ ?_
       rotate_left
       ·intro w'
        go_simp
        with_reducible rfl
       rotate_left
       ·simp only [Act.put,setIfInBounds_toArray,set_cons_zero,set_cons_succ,i64_w,i32_w]
        rfl
       refine pure_ (i:=17) (N:=some 30) (v:=undef) (a':=?_) #[T,T,T,T,T,T,T,T,T,T,T,T,T,T,T,T,T,T,F,F,F,F,F,F,F,F,F,F,F,F,F,F,F,F,F,F,F,F,F,F,F,F,F] rfl rfl (any_of HT_.out (by kernel_rfl)) (fun _ _ _ h => h) (Or.inr ⟨by rfl,rfl⟩) ?_ ?_
       rotate_left
       ·simp only [Act.put,setIfInBounds_toArray,set_cons_zero,set_cons_succ,i64_w,i32_w]
        rfl
       refine pure_ (i:=18) (N:=some 31) (v:=undef) (a':=?_) #[T,T,T,T,T,T,T,T,T,T,T,T,T,T,T,T,T,T,T,F,F,F,F,F,F,F,F,F,F,F,F,F,F,F,F,F,F,F,F,F,F,F,F] rfl rfl (any_of HT_.out (by kernel_rfl)) (fun _ _ _ h => h) (Or.inr ⟨by rfl,rfl⟩) ?_ ?_
       rotate_left
       ·simp only [Act.put,setIfInBounds_toArray,set_cons_zero,set_cons_succ,i64_w,i32_w]
        rfl
       refine pure_ (i:=19) (N:=some 32) (v:=undef) (a':=?_) #[T,T,T,T,T,T,T,T,T,T,T,T,T,T,T,T,T,T,T,T,F,F,F,F,F,F,F,F,F,F,F,F,F,F,F,F,F,F,F,F,F,F,F] rfl rfl (any_of HT_.out (by kernel_rfl)) (fun _ _ _ h => h) (Or.inr ⟨by rfl,rfl⟩) ?_ ?_
       rotate_left
       ·simp only [Act.put,setIfInBounds_toArray,set_cons_zero,set_cons_succ,i64_w,i32_w]
        rfl
       refine pure_ (i:=20) (N:=some 33) (v:=undef) (a':=?_) #[T,T,T,T,T,T,T,T,T,T,T,T,T,T,T,T,T,T,T,T,T,F,F,F,F,F,F,F,F,F,F,F,F,F,F,F,F,F,F,F,F,F,F] rfl rfl (any_of HT_.out (by kernel_rfl)) (fun _ _ _ h => h) (Or.inr ⟨by rfl,rfl⟩) ?_ ?_
       rotate_left
       ·simp only [Act.put,setIfInBounds_toArray,set_cons_zero,set_cons_succ,i64_w,i32_w]
        rfl
       refine pure_ (i:=21) (N:=some 34) (v:=undef) (a':=?_) #[T,T,T,T,T,T,T,T,T,T,T,T,T,T,T,T,T,T,T,T,T,T,F,F,F,F,F,F,F,F,F,F,F,F,F,F,F,F,F,F,F,F,F] rfl rfl (any_of HT_.out (by kernel_rfl)) (fun _ _ _ h => h) (Or.inr ⟨by rfl,rfl⟩) ?_ ?_
       rotate_left
       ·simp only [Act.put,setIfInBounds_toArray,set_cons_zero,set_cons_succ,i64_w,i32_w]
        rfl
       refine pure_ (i:=22) (N:=some 35) (v:=undef) (a':=?_) #[T,T,T,T,T,T,T,T,T,T,T,T,T,T,T,T,T,T,T,T,T,T,T,F,F,F,F,F,F,F,F,F,F,F,F,F,F,F,F,F,F,F,F] rfl rfl (any_of HT_.out (by kernel_rfl)) (fun _ _ _ h => h) (Or.inr ⟨by rfl,rfl⟩) ?_ ?_
       rotate_left
       ·simp only [Act.put,setIfInBounds_toArray,set_cons_zero,set_cons_succ,i64_w,i32_w]
        rfl
       refine pure_ (i:=23) (N:=some 36) (v:=undef) (a':=?_) #[T,T,T,T,T,T,T,T,T,T,T,T,T,T,T,T,T,T,T,T,T,T,T,T,F,F,F,F,F,F,F,F,F,F,F,F,F,F,F,F,F,F,F] rfl rfl (any_of HT_.out (by kernel_rfl)) (fun _ _ _ h => h) (Or.inr ⟨by rfl,rfl⟩) ?_ ?_
       rotate_left
       ·simp only [Act.put,setIfInBounds_toArray,set_cons_zero,set_cons_succ,i64_w,i32_w]
        rfl
       refine pure_ (i:=24) (N:=some 37) (v:=?_) (a':=?_) #[T,T,T,T,T,T,T,T,T,T,T,T,T,T,T,T,T,T,T,T,T,T,T,T,T,F,F,F,F,F,F,F,F,F,F,F,F,F,F,F,F,F,F] rfl rfl (any_of HT_.out (by kernel_rfl)) (fun _ _ _ h => h) (Or.inl ⟨by rfl,?_⟩) ?_ ?_
       rotate_left
       ·intro w'
        go_simp
        with_reducible rfl
       rotate_left
       ·simp only [Act.put,setIfInBounds_toArray,set_cons_zero,set_cons_succ,i64_w,i32_w]
        rfl
       refine pure_ (i:=25) (N:=some 38) (v:=?_) (a':=?_) #[T,T,T,T,T,T,T,T,T,T,T,T,T,T,T,T,T,T,T,T,T,T,T,T,T,T,F,F,F,F,F,F,F,F,F,F,F,F,F,F,F,F,F] rfl rfl (any_of HT_.out (by kernel_rfl)) (fun _ _ _ h => h) (Or.inl ⟨by rfl,?_⟩) ?_ ?_
       rotate_left
       ·intro w'
        go_simp
        with_reducible rfl
       rotate_left
       ·simp only [Act.put,setIfInBounds_toArray,set_cons_zero,set_cons_succ,i64_w,i32_w]
        rfl
       refine pure_ (i:=26) (N:=some 39) (v:=undef) (a':=?_) #[T,T,T,T,T,T,T,T,T,T,T,T,T,T,T,T,T,T,T,T,T,T,T,T,T,T,T,F,F,F,F,F,F,F,F,F,F,F,F,F,F,F,F] rfl rfl (any_of HT_.out (by kernel_rfl)) (fun _ _ _ h => h) (Or.inr ⟨by rfl,rfl⟩) ?_ ?_
       rotate_left
       ·simp only [Act.put,setIfInBounds_toArray,set_cons_zero,set_cons_succ,i64_w,i32_w]
        rfl
       refine pure_ (i:=27) (N:=some 40) (v:=undef) (a':=?_) #[T,T,T,T,T,T,T,T,T,T,T,T,T,T,T,T,T,T,T,T,T,T,T,T,T,T,T,T,F,F,F,F,F,F,F,F,F,F,F,F,F,F,F] rfl rfl (any_of HT_.out (by kernel_rfl)) (fun _ _ _ h => h) (Or.inr ⟨by rfl,rfl⟩) ?_ ?_
       rotate_left
       ·simp only [Act.put,setIfInBounds_toArray,set_cons_zero,set_cons_succ,i64_w,i32_w]
        rfl
       refine pure_ (i:=28) (N:=some 41) (v:=undef) (a':=?_) #[T,T,T,T,T,T,T,T,T,T,T,T,T,T,T,T,T,T,T,T,T,T,T,T,T,T,T,T,T,F,F,F,F,F,F,F,F,F,F,F,F,F,F] rfl rfl (any_of HT_.out (by kernel_rfl)) (fun _ _ _ h => h) (Or.inr ⟨by rfl,rfl⟩) ?_ ?_
       rotate_left
       ·simp only [Act.put,setIfInBounds_toArray,set_cons_zero,set_cons_succ,i64_w,i32_w]
        rfl
       refine pure_ (i:=29) (N:=some 42) (v:=undef) (a':=?_) #[T,T,T,T,T,T,T,T,T,T,T,T,T,T,T,T,T,T,T,T,T,T,T,T,T,T,T,T,T,T,F,F,F,F,F,F,F,F,F,F,F,F,F] rfl rfl (any_of HT_.out (by kernel_rfl)) (fun _ _ _ h => h) (Or.inr ⟨by rfl,rfl⟩) ?_ ?_
       rotate_left
       ·simp only [Act.put,setIfInBounds_toArray,set_cons_zero,set_cons_succ,i64_w,i32_w]
        rfl
       refine pure_ (i:=30) (N:=some 43) (v:=undef) (a':=?_) #[T,T,T,T,T,T,T,T,T,T,T,T,T,T,T,T,T,T,T,T,T,T,T,T,T,T,T,T,T,T,T,F,F,F,F,F,F,F,F,F,F,F,F] rfl rfl (any_of HT_.out (by kernel_rfl)) (fun _ _ _ h => h) (Or.inr ⟨by rfl,rfl⟩) ?_ ?_
       rotate_left
       ·simp only [Act.put,setIfInBounds_toArray,set_cons_zero,set_cons_succ,i64_w,i32_w]
        rfl
       refine pure_ (i:=31) (N:=some 44) (v:=undef) (a':=?_) #[T,T,T,T,T,T,T,T,T,T,T,T,T,T,T,T,T,T,T,T,T,T,T,T,T,T,T,T,T,T,T,T,F,F,F,F,F,F,F,F,F,F,F] rfl rfl (any_of HT_.out (by kernel_rfl)) (fun _ _ _ h => h) (Or.inr ⟨by rfl,rfl⟩) ?_ ?_
       rotate_left
       ·simp only [Act.put,setIfInBounds_toArray,set_cons_zero,set_cons_succ,i64_w,i32_w]
        rfl
       refine pure_ (i:=32) (N:=some 45) (v:=undef) (a':=?_) #[T,T,T,T,T,T,T,T,T,T,T,T,T,T,T,T,T,T,T,T,T,T,T,T,T,T,T,T,T,T,T,T,T,F,F,F,F,F,F,F,F,F,F] rfl rfl (any_of HT_.out (by kernel_rfl)) (fun _ _ _ h => h) (Or.inr ⟨by rfl,rfl⟩) ?_ ?_
       rotate_left
       ·simp only [Act.put,setIfInBounds_toArray,set_cons_zero,set_cons_succ,i64_w,i32_w]
        rfl
       refine pure_ (i:=33) (N:=some 46) (v:=undef) (a':=?_) #[T,T,T,T,T,T,T,T,T,T,T,T,T,T,T,T,T,T,T,T,T,T,T,T,T,T,T,T,T,T,T,T,T,T,F,F,F,F,F,F,F,F,F] rfl rfl (any_of HT_.out (by kernel_rfl)) (fun _ _ _ h => h) (Or.inr ⟨by rfl,rfl⟩) ?_ ?_
       rotate_left
       ·simp only [Act.put,setIfInBounds_toArray,set_cons_zero,set_cons_succ,i64_w,i32_w]
        rfl
       refine pure_ (i:=34) (N:=some 47) (v:=undef) (a':=?_) #[T,T,T,T,T,T,T,T,T,T,T,T,T,T,T,T,T,T,T,T,T,T,T,T,T,T,T,T,T,T,T,T,T,T,T,F,F,F,F,F,F,F,F] rfl rfl (any_of HT_.out (by kernel_rfl)) (fun _ _ _ h => h) (Or.inr ⟨by rfl,rfl⟩) ?_ ?_
       rotate_left
       ·simp only [Act.put,setIfInBounds_toArray,set_cons_zero,set_cons_succ,i64_w,i32_w]
        rfl
       refine pure_ (i:=35) (N:=some 48) (v:=undef) (a':=?_) #[T,T,T,T,T,T,T,T,T,T,T,T,T,T,T,T,T,T,T,T,T,T,T,T,T,T,T,T,T,T,T,T,T,T,T,T,F,F,F,F,F,F,F] rfl rfl (any_of HT_.out (by kernel_rfl)) (fun _ _ _ h => h) (Or.inr ⟨by rfl,rfl⟩) ?_ ?_
       rotate_left
       ·simp only [Act.put,setIfInBounds_toArray,set_cons_zero,set_cons_succ,i64_w,i32_w]
        rfl
       refine pure_ (i:=36) (N:=some 49) (v:=undef) (a':=?_) #[T,T,T,T,T,T,T,T,T,T,T,T,T,T,T,T,T,T,T,T,T,T,T,T,T,T,T,T,T,T,T,T,T,T,T,T,T,F,F,F,F,F,F] rfl rfl (any_of HT_.out (by kernel_rfl)) (fun _ _ _ h => h) (Or.inr ⟨by rfl,rfl⟩) ?_ ?_
       rotate_left
       ·simp only [Act.put,setIfInBounds_toArray,set_cons_zero,set_cons_succ,i64_w,i32_w]
        rfl
       refine pure_ (i:=37) (N:=some 50) (v:=undef) (a':=?_) #[T,T,T,T,T,T,T,T,T,T,T,T,T,T,T,T,T,T,T,T,T,T,T,T,T,T,T,T,T,T,T,T,T,T,T,T,T,T,F,F,F,F,F] rfl rfl (any_of HT_.out (by kernel_rfl)) (fun _ _ _ h => h) (Or.inr ⟨by rfl,rfl⟩) ?_ ?_
       rotate_left
       ·simp only [Act.put,setIfInBounds_toArray,set_cons_zero,set_cons_succ,i64_w,i32_w]
        rfl
       refine pure_ (i:=38) (N:=some 51) (v:=undef) (a':=?_) #[T,T,T,T,T,T,T,T,T,T,T,T,T,T,T,T,T,T,T,T,T,T,T,T,T,T,T,T,T,T,T,T,T,T,T,T,T,T,T,F,F,F,F] rfl rfl (any_of HT_.out (by kernel_rfl)) (fun _ _ _ h => h) (Or.inr ⟨by rfl,rfl⟩) ?_ ?_
       rotate_left
       ·simp only [Act.put,setIfInBounds_toArray,set_cons_zero,set_cons_succ,i64_w,i32_w]
        rfl
       refine pure_ (i:=39) (N:=some 52) (v:=undef) (a':=?_) #[T,T,T,T,T,T,T,T,T,T,T,T,T,T,T,T,T,T,T,T,T,T,T,T,T,T,T,T,T,T,T,T,T,T,T,T,T,T,T,T,F,F,F] rfl rfl (any_of HT_.out (by kernel_rfl)) (fun _ _ _ h => h) (Or.inr ⟨by rfl,rfl⟩) ?_ ?_
       rotate_left
       ·simp only [Act.put,setIfInBounds_toArray,set_cons_zero,set_cons_succ,i64_w,i32_w]
        rfl
       refine pure_ (i:=40) (N:=some 53) (v:=undef) (a':=?_) #[T,T,T,T,T,T,T,T,T,T,T,T,T,T,T,T,T,T,T,T,T,T,T,T,T,T,T,T,T,T,T,T,T,T,T,T,T,T,T,T,T,F,F] rfl rfl (any_of HT_.out (by kernel_rfl)) (fun _ _ _ h => h) (Or.inr ⟨by rfl,rfl⟩) ?_ ?_
       rotate_left
       ·simp only [Act.put,setIfInBounds_toArray,set_cons_zero,set_cons_succ,i64_w,i32_w]
        rfl
       refine pure_ (i:=41) (N:=some 54) (v:=undef) (a':=?_) #[T,T,T,T,T,T,T,T,T,T,T,T,T,T,T,T,T,T,T,T,T,T,T,T,T,T,T,T,T,T,T,T,T,T,T,T,T,T,T,T,T,T,F] rfl rfl (any_of HT_.out (by kernel_rfl)) (fun _ _ _ h => h) (Or.inr ⟨by rfl,rfl⟩) ?_ ?_
       rotate_left
       ·simp only [Act.put,setIfInBounds_toArray,set_cons_zero,set_cons_succ,i64_w,i32_w]
        rfl
       refine pure_ (i:=42) (N:=some 55) (v:=?_) (a':=?_) #[T,T,T,T,T,T,T,T,T,T,T,T,T,T,T,T,T,T,T,T,T,T,T,T,T,T,T,T,T,T,T,T,T,T,T,T,T,T,T,T,T,T,T] rfl rfl (any_of HT_.out (by kernel_rfl)) (fun _ _ _ h => h) (Or.inl ⟨by rfl,?_⟩) ?_ ?_
       rotate_left
       ·intro w'
        go_simp
        with_reducible rfl
       rotate_left
       ·simp only [Act.put,setIfInBounds_toArray,set_cons_zero,set_cons_succ,i64_w,i32_w]
        rfl
       refine done_ (done_of HT_.out (by kernel_rfl)) ?_
       try go_wp2
       go_ret
       exact ⟨by first | rfl | (simp only [i64_w,i32_w] <;> rfl) | (simp [errW_none,errW_some] <;> rfl) | (simp [*,errW_none,errW_some] <;> rfl),by repeat (first | (with_reducible first | exact HB.out | apply below_alloc | apply pw_below_drewN | apply below_drew1) | exact HB.out)⟩
     ·rw [if_neg c4] at H
      exact absurd H (by simp)
    ·rw [if_neg c3] at H
     have c3b0 : decide (x3_1 < (l0.length : Int)) = false := decide_eq_false c3
     clear c3
     obtain rfl := Option.some.inj H
     go_wp2
     go_ret
     exact ⟨by first | rfl | (simp only [i64_w,i32_w] <;> rfl) | (simp [errW_none,errW_some] <;> rfl) | (simp [*,errW_none,errW_some] <;> rfl),by repeat (first | (with_reducible first | exact HB.out | apply below_alloc | apply pw_below_drewN | apply below_drew1) | exact HB.out)⟩

end Go.Proofs.YtbdhpmamlibmhaaDoor.XFnExactReadBuckets
