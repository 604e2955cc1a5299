-- Printed by this session's own program wip/tools/xprint.py, which widens the kit's print. Not trusted: Lean checks it.
import Derived.Test.YtmfichcgmofpkaaXFnExactNewFleetx0
import Derived.Test.YtmfichcgmofpkaaXFnExactNewFleetx3
namespace Go.Proofs.Ytmfichcgmofpkaa.XFnExactNewFleet
open List (setIfInBounds_toArray set_cons_zero set_cons_succ)
open Go.RowKit Go.Proofs.YtmfichcgmofpkaaW.PrintWords Go.Proofs.YtmfichcgmofpkaaW.PrintLast Go.Proofs.YtmfichcgmofpkaaW.PrintMore
attribute [local go_sem] max2_int min2_int max_two min_two max_three min_three max_four min_four   -- for this text's walks alone
set_option linter.unusedVariables false
set_option linter.unusedSimpArgs false

/-! ### laws_eqWorkerS: function 13 -/
def laws_eqWorkerS.l0 : Nat → List (S44) → List (S44) → Int → Option (Bool)
 | 0,_,_,_ => none
 | k + 1,x0,x1,x5 => if x5 < (x0.length : Int) then (if 0 ≤ x5 then (if x5 < (x1.length : Int) then ((laws_eqWorker.f k ((rd_T44 x0 x5).f0) ((rd_T44 x0 x5).f1) ((rd_T44 x0 x5).f2) ((rd_T44 x0 x5).f3.f0) ((rd_T44 x0 x5).f3.f1) ((rd_T44 x0 x5).f3.f2) ((rd_T44 x0 x5).f3.f3) ((rd_T44 x0 x5).f3.f4) ((rd_T44 x0 x5).f3.f5) ((rd_T44 x0 x5).f4) ((rd_T44 x0 x5).f5.f0) ((rd_T44 x0 x5).f5.f1) ((rd_T44 x0 x5).f5.f2) ((rd_T44 x0 x5).f5.f3) ((rd_T44 x0 x5).f5.f4) ((rd_T44 x0 x5).f5.f5) ((rd_T44 x1 x5).f0) ((rd_T44 x1 x5).f1) ((rd_T44 x1 x5).f2) ((rd_T44 x1 x5).f3.f0) ((rd_T44 x1 x5).f3.f1) ((rd_T44 x1 x5).f3.f2) ((rd_T44 x1 x5).f3.f3) ((rd_T44 x1 x5).f3.f4) ((rd_T44 x1 x5).f3.f5) ((rd_T44 x1 x5).f4) ((rd_T44 x1 x5).f5.f0) ((rd_T44 x1 x5).f5.f1) ((rd_T44 x1 x5).f5.f2) ((rd_T44 x1 x5).f5.f3) ((rd_T44 x1 x5).f5.f4) ((rd_T44 x1 x5).f5.f5)).bind fun t255 => (if t255 = true then (laws_eqWorkerS.l0 k x0 x1 (wrap64 (x5 + 1))) else (some false))) else (none)) else (none)) else (some true)
def laws_eqWorkerS.f (k : Nat) (l0 : List (S44)) (l1 : List (S44)) : Option (Bool) := if (l0.length : Int) = (l1.length : Int) then (laws_eqWorkerS.l0 k l0 l1 0) else (some false)
theorem laws_eqWorkerS.mono_l : ∀ k,(∀ y0 y1 y2,LeO (laws_eqWorkerS.l0 k y0 y1 y2) (laws_eqWorkerS.l0 (k + 1) y0 y1 y2))
 | 0 => fun _ _ _ r h => by simp [laws_eqWorkerS.l0] at h
 | k + 1 => by
  have ih0 := laws_eqWorkerS.mono_l k
  ·intro y0 y1 y2
   unfold laws_eqWorkerS.l0
   repeat' first
   | (with_reducible first | exact ih0 .. | exact laws_eqWorker.mono .. | exact LeO.refl _ | exact LeO.none _ | refine LeO.ite ?_ ?_ | refine LeO.bind ?_ (fun _ => ?_))
   | exact LeO.none _ | refine LeO.ite ?_ ?_ | refine LeO.bind ?_ (fun _ => ?_)
theorem laws_eqWorkerS.mono : ∀ a0 a1 k,LeO (laws_eqWorkerS.f k a0 a1) (laws_eqWorkerS.f (k + 1) a0 a1) := by
 intro a0 a1 k
 have ih0 := laws_eqWorkerS.mono_l k
 unfold laws_eqWorkerS.f
 repeat' first
 | (with_reducible first | exact ih0 .. | exact laws_eqWorker.mono .. | exact LeO.refl _ | exact LeO.none _ | refine LeO.ite ?_ ?_ | refine LeO.bind ?_ (fun _ => ?_))
 | exact LeO.none _ | refine LeO.ite ?_ ?_ | refine LeO.bind ?_ (fun _ => ?_)
def laws_eqWorkerS.T6 : Bool × List (List Nat × List Nat) := (true,[([],[]),([],[]),([0,1],[0,1]),([2],[2]),([],[]),([],[]),([4,5],[4,5]),([6],[6]),([3,7],[3,7]),([8],[8])])
def laws_eqWorkerS.B6 : List Nat := [0,0,3,7,0,0,48,112,255,511]
theorem laws_eqWorkerS.tab6 : rtab .any (opsOf Try.f13 6) = laws_eqWorkerS.T6 := by kernel_rfl
theorem laws_eqWorkerS.bits6 : waitsOk laws_eqWorkerS.T6.2 laws_eqWorkerS.B6 = true := by kernel_rfl
set_option maxHeartbeats 8000000 in
set_option maxRecDepth 100000 in
theorem laws_eqWorkerS.calls (k : Nat) (A0 : Option Addr) (c0 : Nat) (l0 : List (S44)) (A1 : Option Addr) (c1 : Nat) (l1 : List (S44)) (r : Bool) (w : World) (hr0 : Kd.C k44 w A0 l0.length l0) (hc0 : l0.length ≤ c0) (hr1 : Kd.C k44 w A1 l1.length l1) (hc1 : l1.length ≤ c1) (h : laws_eqWorkerS.f k l0 l1 = some r) :
  Calls Try.prog 13 #[.slice A0 l0.length c0,.slice A1 l1.length c1] w fun e w' => e = .returned (.bool r) ∧ Below w.heap.size w w' := by
 have hu44 := Try.underlying44
 have HR0 := Aside0.mk hr0
 have HC0 := Aside0.mk hc0
 clear hr0 hc0
 have HR1 := Aside0.mk hr1
 have HC1 := Aside0.mk hc1
 clear hr1 hc1
 have HB := Aside0.mk (Below.refl w.heap.size w)
 have H : (if (l0.length : Int) = (l1.length : Int) then (laws_eqWorkerS.l0 k l0 l1 0) else (some false)) = some r := h
 clear h
 by_cases c3 : (l0.length : Int) = (l1.length : Int)
 ·rw [if_pos c3] at H
  have c3b0 : ((l0.length : Int) == (l1.length : Int)) = true := beq_iff_eq.mpr c3
  have c3b1 : ((l0.length : Int) != (l1.length : Int)) = false := bne_eq_false_iff_eq.mpr c3
  have c3b2 : (l0.length == l1.length) = true := by first | simpa using c3 | (simp at c3 ⊢; omega)
  clear c3
  have H' := Aside0.mk H
  clear H
  go_enter Try.func13,Try.ntmps13
  go_wp2
  go_loopg [5] k (fun kq v5 w' => ∃ (x5_1 : Int),v5 = .int .i64 x5_1 ∧ Aside0 (laws_eqWorkerS.l0 kq l0 l1 x5_1 = some r) ∧ Aside0 (kq ≤ k) ∧ Aside0 (Below w.heap.size w w'))
  case atStart => exact ⟨(0),(by first | rfl | (simp; done) | (simp [*]; done)),H',⟨Nat.le_refl _⟩,⟨bA⟩⟩
  case round =>
   clear H'
   try clear c1
   try clear p2
   try clear c3
   try clear c3b0
   try clear c3b1
   try clear c3b2
   obtain ⟨x5_1,rfl,HA,HK1,HB⟩ := hrel
   cases gk with
   | zero => exact absurd HA.out (by simp [laws_eqWorkerS.l0])
   | succ k1 =>
    have H := HA.out
    clear HA
    simp only [laws_eqWorkerS.l0] at H
    by_cases c4 : x5_1 < (l0.length : Int)
    ·rw [if_pos c4] at H
     have c4b0 : decide (x5_1 < (l0.length : Int)) = true := decide_eq_true c4
     clear c4
     by_cases c5 : 0 ≤ x5_1
     ·rw [if_pos c5] at H
      have c5b0 : decide (0 ≤ x5_1) = true := decide_eq_true c5
      clear c5
      by_cases c6 : x5_1 < (l1.length : Int)
      ·rw [if_pos c6] at H
       have c6b0 : decide (x5_1 < (l1.length : Int)) = true := decide_eq_true c6
       clear c6
       replace H := Option.bind_eq_some_iff.mp H
       obtain ⟨t255,A70,H⟩ := H
       try dsimp only at H
       have A7 := Aside0.mk A70
       clear A70
       by_cases c8 : t255 = true
       ·subst c8
        rw [if_pos rfl] at H
        have H' := Aside0.mk H
        clear H
        try go_wp2
        replace HB := Aside0.mk (below_drew1 HB.out)
        have p253 : 0 ≤ (x5_1 : Int) := od
        have q253 : x5_1 < (l0.length : Int) := od
        obtain ⟨ad253,A253_9,c253_9,e253,hx253_0,hx253_1,hx253_2,hx253_3,hx253_4,hx253_5,hx253_6,hx253_7,hx253_8,hx253_9,hx253_10,hx253_11,hx253_12,hx253_13,hx253_14,hx253_15⟩ := at_T44 HR0.out x5_1 p253 q253
        have hw253_15 := hx253_15
        have hw253_14 := hx253_14
        have hw253_13 := hx253_13
        have hw253_12 := hx253_12
        have hw253_11 := hx253_11
        have hw253_10 := hx253_10
        have hw253_9 := hx253_9
        have hw253_8 := hx253_8
        have hw253_7 := hx253_7
        have hw253_6 := hx253_6
        have hw253_5 := hx253_5
        have hw253_4 := hx253_4
        have hw253_3 := hx253_3
        have hw253_2 := hx253_2
        have hw253_1 := hx253_1
        have hw253_0 := hx253_0
        cases e253
        replace hx253_0 := cb HB.out hx253_0
        replace hx253_1 := cb HB.out hx253_1
        replace hx253_2 := cb HB.out hx253_2
        replace hx253_3 := cb HB.out hx253_3
        replace hx253_4 := cb HB.out hx253_4
        replace hx253_5 := cb HB.out hx253_5
        replace hx253_6 := cb HB.out hx253_6
        replace hx253_7 := cb HB.out hx253_7
        replace hx253_8 := cb HB.out hx253_8
        replace hx253_9 := cb HB.out hx253_9
        replace hx253_10 := cb HB.out hx253_10
        replace hx253_11 := cb HB.out hx253_11
        replace hx253_12 := cb HB.out hx253_12
        replace hx253_13 := cb HB.out hx253_13
        replace hx253_14 := cb HB.out hx253_14
        replace hx253_15 := cb HB.out hx253_15
        replace p253 := eq_true p253
        replace q253 := eq_true q253
        have p254 : 0 ≤ (x5_1 : Int) := od
        have q254 : x5_1 < (l1.length : Int) := od
        obtain ⟨ad254,A254_9,c254_9,e254,hx254_0,hx254_1,hx254_2,hx254_3,hx254_4,hx254_5,hx254_6,hx254_7,hx254_8,hx254_9,hx254_10,hx254_11,hx254_12,hx254_13,hx254_14,hx254_15⟩ := at_T44 HR1.out x5_1 p254 q254
        have hw254_15 := hx254_15
        have hw254_14 := hx254_14
        have hw254_13 := hx254_13
        have hw254_12 := hx254_12
        have hw254_11 := hx254_11
        have hw254_10 := hx254_10
        have hw254_9 := hx254_9
        have hw254_8 := hx254_8
        have hw254_7 := hx254_7
        have hw254_6 := hx254_6
        have hw254_5 := hx254_5
        have hw254_4 := hx254_4
        have hw254_3 := hx254_3
        have hw254_2 := hx254_2
        have hw254_1 := hx254_1
        have hw254_0 := hx254_0
        cases e254
        replace hx254_0 := cb HB.out hx254_0
        replace hx254_1 := cb HB.out hx254_1
        replace hx254_2 := cb HB.out hx254_2
        replace hx254_3 := cb HB.out hx254_3
        replace hx254_4 := cb HB.out hx254_4
        replace hx254_5 := cb HB.out hx254_5
        replace hx254_6 := cb HB.out hx254_6
        replace hx254_7 := cb HB.out hx254_7
        replace hx254_8 := cb HB.out hx254_8
        replace hx254_9 := cb HB.out hx254_9
        replace hx254_10 := cb HB.out hx254_10
        replace hx254_11 := cb HB.out hx254_11
        replace hx254_12 := cb HB.out hx254_12
        replace hx254_13 := cb HB.out hx254_13
        replace hx254_14 := cb HB.out hx254_14
        replace hx254_15 := cb HB.out hx254_15
        replace p254 := eq_true p254
        replace q254 := eq_true q254
        refine start_ (n:=10) (S:=fun w' => w'.cell? (ad253.add ((x5_1).toNat * 16)) = some (.int .i64 ((rd_T44 l0 x5_1).f0)) ∧ w'.cell? ⟨(ad253.add ((x5_1).toNat * 16)).block,(ad253.add ((x5_1).toNat * 16)).off + 1,none⟩ = some (.int .i64 ((rd_T44 l0 x5_1).f1)) ∧ w'.cell? ⟨(ad253.add ((x5_1).toNat * 16)).block,(ad253.add ((x5_1).toNat * 16)).off + 2,none⟩ = some (.int .i64 ((rd_T44 l0 x5_1).f2)) ∧ w'.cell? ⟨(ad253.add ((x5_1).toNat * 16)).block,(ad253.add ((x5_1).toNat * 16)).off + 3,none⟩ = some (.int .i64 ((rd_T44 l0 x5_1).f3.f0)) ∧ w'.cell? ⟨(ad253.add ((x5_1).toNat * 16)).block,(ad253.add ((x5_1).toNat * 16)).off + 4,none⟩ = some (.int .i64 ((rd_T44 l0 x5_1).f3.f1)) ∧ w'.cell? ⟨(ad253.add ((x5_1).toNat * 16)).block,(ad253.add ((x5_1).toNat * 16)).off + 5,none⟩ = some (.int .i64 ((rd_T44 l0 x5_1).f3.f2)) ∧ w'.cell? ⟨(ad253.add ((x5_1).toNat * 16)).block,(ad253.add ((x5_1).toNat * 16)).off + 6,none⟩ = some (.int .i64 ((rd_T44 l0 x5_1).f3.f3)) ∧ w'.cell? ⟨(ad253.add ((x5_1).toNat * 16)).block,(ad253.add ((x5_1).toNat * 16)).off + 7,none⟩ = some (.int .i64 ((rd_T44 l0 x5_1).f3.f4)) ∧ w'.cell? ⟨(ad253.add ((x5_1).toNat * 16)).block,(ad253.add ((x5_1).toNat * 16)).off + 8,none⟩ = some (.string ((rd_T44 l0 x5_1).f3.f5)) ∧ w'.cell? ⟨(ad253.add ((x5_1).toNat * 16)).block,(ad253.add ((x5_1).toNat * 16)).off + 9,none⟩ = some (.slice A253_9 0 c253_9) ∧ w'.cell? ⟨(ad253.add ((x5_1).toNat * 16)).block,(ad253.add ((x5_1).toNat * 16)).off + 10,none⟩ = some (.int .i64 ((rd_T44 l0 x5_1).f5.f0)) ∧ w'.cell? ⟨(ad253.add ((x5_1).toNat * 16)).block,(ad253.add ((x5_1).toNat * 16)).off + 11,none⟩ = some (.int .i64 ((rd_T44 l0 x5_1).f5.f1)) ∧ w'.cell? ⟨(ad253.add ((x5_1).toNat * 16)).block,(ad253.add ((x5_1).toNat * 16)).off + 12,none⟩ = some (.int .i64 ((rd_T44 l0 x5_1).f5.f2)) ∧ w'.cell? ⟨(ad253.add ((x5_1).toNat * 16)).block,(ad253.add ((x5_1).toNat * 16)).off + 13,none⟩ = some (.int .i64 ((rd_T44 l0 x5_1).f5.f3)) ∧ w'.cell? ⟨(ad253.add ((x5_1).toNat * 16)).block,(ad253.add ((x5_1).toNat * 16)).off + 14,none⟩ = some (.int .i64 ((rd_T44 l0 x5_1).f5.f4)) ∧ w'.cell? ⟨(ad253.add ((x5_1).toNat * 16)).block,(ad253.add ((x5_1).toNat * 16)).off + 15,none⟩ = some (.int .i64 ((rd_T44 l0 x5_1).f5.f5)) ∧ w'.cell? (ad254.add ((x5_1).toNat * 16)) = some (.int .i64 ((rd_T44 l1 x5_1).f0)) ∧ w'.cell? ⟨(ad254.add ((x5_1).toNat * 16)).block,(ad254.add ((x5_1).toNat * 16)).off + 1,none⟩ = some (.int .i64 ((rd_T44 l1 x5_1).f1)) ∧ w'.cell? ⟨(ad254.add ((x5_1).toNat * 16)).block,(ad254.add ((x5_1).toNat * 16)).off + 2,none⟩ = some (.int .i64 ((rd_T44 l1 x5_1).f2)) ∧ w'.cell? ⟨(ad254.add ((x5_1).toNat * 16)).block,(ad254.add ((x5_1).toNat * 16)).off + 3,none⟩ = some (.int .i64 ((rd_T44 l1 x5_1).f3.f0)) ∧ w'.cell? ⟨(ad254.add ((x5_1).toNat * 16)).block,(ad254.add ((x5_1).toNat * 16)).off + 4,none⟩ = some (.int .i64 ((rd_T44 l1 x5_1).f3.f1)) ∧ w'.cell? ⟨(ad254.add ((x5_1).toNat * 16)).block,(ad254.add ((x5_1).toNat * 16)).off + 5,none⟩ = some (.int .i64 ((rd_T44 l1 x5_1).f3.f2)) ∧ w'.cell? ⟨(ad254.add ((x5_1).toNat * 16)).block,(ad254.add ((x5_1).toNat * 16)).off + 6,none⟩ = some (.int .i64 ((rd_T44 l1 x5_1).f3.f3)) ∧ w'.cell? ⟨(ad254.add ((x5_1).toNat * 16)).block,(ad254.add ((x5_1).toNat * 16)).off + 7,none⟩ = some (.int .i64 ((rd_T44 l1 x5_1).f3.f4)) ∧ w'.cell? ⟨(ad254.add ((x5_1).toNat * 16)).block,(ad254.add ((x5_1).toNat * 16)).off + 8,none⟩ = some (.string ((rd_T44 l1 x5_1).f3.f5)) ∧ w'.cell? ⟨(ad254.add ((x5_1).toNat * 16)).block,(ad254.add ((x5_1).toNat * 16)).off + 9,none⟩ = some (.slice A254_9 0 c254_9) ∧ w'.cell? ⟨(ad254.add ((x5_1).toNat * 16)).block,(ad254.add ((x5_1).toNat * 16)).off + 10,none⟩ = some (.int .i64 ((rd_T44 l1 x5_1).f5.f0)) ∧ w'.cell? ⟨(ad254.add ((x5_1).toNat * 16)).block,(ad254.add ((x5_1).toNat * 16)).off + 11,none⟩ = some (.int .i64 ((rd_T44 l1 x5_1).f5.f1)) ∧ w'.cell? ⟨(ad254.add ((x5_1).toNat * 16)).block,(ad254.add ((x5_1).toNat * 16)).off + 12,none⟩ = some (.int .i64 ((rd_T44 l1 x5_1).f5.f2)) ∧ w'.cell? ⟨(ad254.add ((x5_1).toNat * 16)).block,(ad254.add ((x5_1).toNat * 16)).off + 13,none⟩ = some (.int .i64 ((rd_T44 l1 x5_1).f5.f3)) ∧ w'.cell? ⟨(ad254.add ((x5_1).toNat * 16)).block,(ad254.add ((x5_1).toNat * 16)).off + 14,none⟩ = some (.int .i64 ((rd_T44 l1 x5_1).f5.f4)) ∧ w'.cell? ⟨(ad254.add ((x5_1).toNat * 16)).block,(ad254.add ((x5_1).toNat * 16)).off + 15,none⟩ = some (.int .i64 ((rd_T44 l1 x5_1).f5.f5))) (ds := []) (bm 10 0) (by kernel_rfl) rfl rfl ⟨(cb HB.out hw253_0),(cb HB.out hw253_1),(cb HB.out hw253_2),(cb HB.out hw253_3),(cb HB.out hw253_4),(cb HB.out hw253_5),(cb HB.out hw253_6),(cb HB.out hw253_7),(cb HB.out hw253_8),(cb HB.out hw253_9),(cb HB.out hw253_10),(cb HB.out hw253_11),(cb HB.out hw253_12),(cb HB.out hw253_13),(cb HB.out hw253_14),(cb HB.out hw253_15),(cb HB.out hw254_0),(cb HB.out hw254_1),(cb HB.out hw254_2),(cb HB.out hw254_3),(cb HB.out hw254_4),(cb HB.out hw254_5),(cb HB.out hw254_6),(cb HB.out hw254_7),(cb HB.out hw254_8),(cb HB.out hw254_9),(cb HB.out hw254_10),(cb HB.out hw254_11),(cb HB.out hw254_12),(cb HB.out hw254_13),(cb HB.out hw254_14),(cb HB.out hw254_15)⟩ (fun hHeld => ?_); refine with_tabW laws_eqWorkerS.tab6 laws_eqWorkerS.bits6 (fun HT_ HW_ => ?_)
        generalize wr.drew = w9 at HB hx253_0 hx253_1 hx253_10 hx253_11 hx253_12 hx253_13 hx253_14 hx253_15 hx253_2 hx253_3 hx253_4 hx253_5 hx253_6 hx253_7 hx253_8 hx253_9 hx254_0 hx254_1 hx254_10 hx254_11 hx254_12 hx254_13 hx254_14 hx254_15 hx254_2 hx254_3 hx254_4 hx254_5 hx254_6 hx254_7 hx254_8 hx254_9 hHeld ⊢
        refine pV_ 0 17 (bm 10 1) HT_.out ?_
        refine pV_ 1 18 (bm 10 3) HT_.out ?_
        refine pV_ 2 19 (bm 10 7) HT_.out ?_
        refine pV_ 4 21 (bm 10 23) HT_.out ?_
        refine pV_ 5 22 (bm 10 55) HT_.out ?_
        refine pV_ 6 23 (bm 10 119) HT_.out ?_
        refine tk 3 20 (bm 10 127) HT_.out HW_.out hHeld ?_
        refine tk 7 24 (bm 10 255) HT_.out HW_.out hHeld ?_
        refine one_ (i:=8) (N:=some 25) (bm 10 511) rfl rfl (one_of HT_.out (by kernel_rfl)) (by decide) (fun K hK => ?_)
        refine goes_ Try.func35 (by kernel_rfl) rfl #[.agg #[.int .i64 ((rd_T44 l0 x5_1).f0),.int .i64 ((rd_T44 l0 x5_1).f1),.int .i64 ((rd_T44 l0 x5_1).f2),.int .i64 ((rd_T44 l0 x5_1).f3.f0),.int .i64 ((rd_T44 l0 x5_1).f3.f1),.int .i64 ((rd_T44 l0 x5_1).f3.f2),.int .i64 ((rd_T44 l0 x5_1).f3.f3),.int .i64 ((rd_T44 l0 x5_1).f3.f4),.string ((rd_T44 l0 x5_1).f3.f5),.slice A253_9 0 c253_9,.int .i64 ((rd_T44 l0 x5_1).f5.f0),.int .i64 ((rd_T44 l0 x5_1).f5.f1),.int .i64 ((rd_T44 l0 x5_1).f5.f2),.int .i64 ((rd_T44 l0 x5_1).f5.f3),.int .i64 ((rd_T44 l0 x5_1).f5.f4),.int .i64 ((rd_T44 l0 x5_1).f5.f5)],.agg #[.int .i64 ((rd_T44 l1 x5_1).f0),.int .i64 ((rd_T44 l1 x5_1).f1),.int .i64 ((rd_T44 l1 x5_1).f2),.int .i64 ((rd_T44 l1 x5_1).f3.f0),.int .i64 ((rd_T44 l1 x5_1).f3.f1),.int .i64 ((rd_T44 l1 x5_1).f3.f2),.int .i64 ((rd_T44 l1 x5_1).f3.f3),.int .i64 ((rd_T44 l1 x5_1).f3.f4),.string ((rd_T44 l1 x5_1).f3.f5),.slice A254_9 0 c254_9,.int .i64 ((rd_T44 l1 x5_1).f5.f0),.int .i64 ((rd_T44 l1 x5_1).f5.f1),.int .i64 ((rd_T44 l1 x5_1).f5.f2),.int .i64 ((rd_T44 l1 x5_1).f5.f3),.int .i64 ((rd_T44 l1 x5_1).f5.f4),.int .i64 ((rd_T44 l1 x5_1).f5.f5)]] (by rfl) rfl rfl mA ?_
        with_reducible refine (laws_eqWorker.calls k1 ((rd_T44 l0 x5_1).f0) ((rd_T44 l0 x5_1).f1) ((rd_T44 l0 x5_1).f2) ((rd_T44 l0 x5_1).f3.f0) ((rd_T44 l0 x5_1).f3.f1) ((rd_T44 l0 x5_1).f3.f2) ((rd_T44 l0 x5_1).f3.f3) ((rd_T44 l0 x5_1).f3.f4) ((rd_T44 l0 x5_1).f3.f5) _ _ ((rd_T44 l0 x5_1).f4) ((rd_T44 l0 x5_1).f5.f0) ((rd_T44 l0 x5_1).f5.f1) ((rd_T44 l0 x5_1).f5.f2) ((rd_T44 l0 x5_1).f5.f3) ((rd_T44 l0 x5_1).f5.f4) ((rd_T44 l0 x5_1).f5.f5) ((rd_T44 l1 x5_1).f0) ((rd_T44 l1 x5_1).f1) ((rd_T44 l1 x5_1).f2) ((rd_T44 l1 x5_1).f3.f0) ((rd_T44 l1 x5_1).f3.f1) ((rd_T44 l1 x5_1).f3.f2) ((rd_T44 l1 x5_1).f3.f3) ((rd_T44 l1 x5_1).f3.f4) ((rd_T44 l1 x5_1).f3.f5) _ _ ((rd_T44 l1 x5_1).f4) ((rd_T44 l1 x5_1).f5.f0) ((rd_T44 l1 x5_1).f5.f1) ((rd_T44 l1 x5_1).f5.f2) ((rd_T44 l1 x5_1).f5.f3) ((rd_T44 l1 x5_1).f5.f4) ((rd_T44 l1 x5_1).f5.f5) true _ A7.out).mono ?_
        rintro e w10 ⟨rfl,hb⟩
        refine ⟨_,rfl,?_⟩
        replace HB := bsA hb
        clear hb
        refine hK.out _ _ ⟨(cb HB.out hw253_0),(cb HB.out hw253_1),(cb HB.out hw253_2),(cb HB.out hw253_3),(cb HB.out hw253_4),(cb HB.out hw253_5),(cb HB.out hw253_6),(cb HB.out hw253_7),(cb HB.out hw253_8),(cb HB.out hw253_9),(cb HB.out hw253_10),(cb HB.out hw253_11),(cb HB.out hw253_12),(cb HB.out hw253_13),(cb HB.out hw253_14),(cb HB.out hw253_15),(cb HB.out hw254_0),(cb HB.out hw254_1),(cb HB.out hw254_2),(cb HB.out hw254_3),(cb HB.out hw254_4),(cb HB.out hw254_5),(cb HB.out hw254_6),(cb HB.out hw254_7),(cb HB.out hw254_8),(cb HB.out hw254_9),(cb HB.out hw254_10),(cb HB.out hw254_11),(cb HB.out hw254_12),(cb HB.out hw254_13),(cb HB.out hw254_14),(cb HB.out hw254_15)⟩ (fun hHeld => ?_)
        clear hK K
        refine nw 25 ?_
        refine pV_ 9 26 (bm 10 1023) HT_.out ?_
        refine done_ (done_of HT_.out (by kernel_rfl)) ?_
        try go_wp2
        go_roundg k1
        case measure => have := HK1.out; omega
        case rel => exact ⟨(wrap64 (x5_1 + 1)),(by first | rfl | (simp; done) | (simp [*]; done)),H',⟨by have := HK1.out; omega⟩,⟨bA⟩⟩
       ·replace c8 := Bool.eq_false_iff.mpr c8
        subst c8
        rw [if_neg (show ¬ (false = true) by decide)] at H
        obtain rfl := Option.some.inj H
        try go_wp2
        replace HB := Aside0.mk (below_drew1 HB.out)
        have p253 : 0 ≤ (x5_1 : Int) := od
        have q253 : x5_1 < (l0.length : Int) := od
        obtain ⟨ad253,A253_9,c253_9,e253,hx253_0,hx253_1,hx253_2,hx253_3,hx253_4,hx253_5,hx253_6,hx253_7,hx253_8,hx253_9,hx253_10,hx253_11,hx253_12,hx253_13,hx253_14,hx253_15⟩ := at_T44 HR0.out x5_1 p253 q253
        have hw253_15 := hx253_15
        have hw253_14 := hx253_14
        have hw253_13 := hx253_13
        have hw253_12 := hx253_12
        have hw253_11 := hx253_11
        have hw253_10 := hx253_10
        have hw253_9 := hx253_9
        have hw253_8 := hx253_8
        have hw253_7 := hx253_7
        have hw253_6 := hx253_6
        have hw253_5 := hx253_5
        have hw253_4 := hx253_4
        have hw253_3 := hx253_3
        have hw253_2 := hx253_2
        have hw253_1 := hx253_1
        have hw253_0 := hx253_0
        cases e253
        replace hx253_0 := cb HB.out hx253_0
        replace hx253_1 := cb HB.out hx253_1
        replace hx253_2 := cb HB.out hx253_2
        replace hx253_3 := cb HB.out hx253_3
        replace hx253_4 := cb HB.out hx253_4
        replace hx253_5 := cb HB.out hx253_5
        replace hx253_6 := cb HB.out hx253_6
        replace hx253_7 := cb HB.out hx253_7
        replace hx253_8 := cb HB.out hx253_8
        replace hx253_9 := cb HB.out hx253_9
        replace hx253_10 := cb HB.out hx253_10
        replace hx253_11 := cb HB.out hx253_11
        replace hx253_12 := cb HB.out hx253_12
        replace hx253_13 := cb HB.out hx253_13
        replace hx253_14 := cb HB.out hx253_14
        replace hx253_15 := cb HB.out hx253_15
        replace p253 := eq_true p253
        replace q253 := eq_true q253
        have p254 : 0 ≤ (x5_1 : Int) := od
        have q254 : x5_1 < (l1.length : Int) := od
        obtain ⟨ad254,A254_9,c254_9,e254,hx254_0,hx254_1,hx254_2,hx254_3,hx254_4,hx254_5,hx254_6,hx254_7,hx254_8,hx254_9,hx254_10,hx254_11,hx254_12,hx254_13,hx254_14,hx254_15⟩ := at_T44 HR1.out x5_1 p254 q254
        have hw254_15 := hx254_15
        have hw254_14 := hx254_14
        have hw254_13 := hx254_13
        have hw254_12 := hx254_12
        have hw254_11 := hx254_11
        have hw254_10 := hx254_10
        have hw254_9 := hx254_9
        have hw254_8 := hx254_8
        have hw254_7 := hx254_7
        have hw254_6 := hx254_6
        have hw254_5 := hx254_5
        have hw254_4 := hx254_4
        have hw254_3 := hx254_3
        have hw254_2 := hx254_2
        have hw254_1 := hx254_1
        have hw254_0 := hx254_0
        cases e254
        replace hx254_0 := cb HB.out hx254_0
        replace hx254_1 := cb HB.out hx254_1
        replace hx254_2 := cb HB.out hx254_2
        replace hx254_3 := cb HB.out hx254_3
        replace hx254_4 := cb HB.out hx254_4
        replace hx254_5 := cb HB.out hx254_5
        replace hx254_6 := cb HB.out hx254_6
        replace hx254_7 := cb HB.out hx254_7
        replace hx254_8 := cb HB.out hx254_8
        replace hx254_9 := cb HB.out hx254_9
        replace hx254_10 := cb HB.out hx254_10
        replace hx254_11 := cb HB.out hx254_11
        replace hx254_12 := cb HB.out hx254_12
        replace hx254_13 := cb HB.out hx254_13
        replace hx254_14 := cb HB.out hx254_14
        replace hx254_15 := cb HB.out hx254_15
        replace p254 := eq_true p254
        replace q254 := eq_true q254
        refine start_ (n:=10) (S:=fun w' => w'.cell? (ad253.add ((x5_1).toNat * 16)) = some (.int .i64 ((rd_T44 l0 x5_1).f0)) ∧ w'.cell? ⟨(ad253.add ((x5_1).toNat * 16)).block,(ad253.add ((x5_1).toNat * 16)).off + 1,none⟩ = some (.int .i64 ((rd_T44 l0 x5_1).f1)) ∧ w'.cell? ⟨(ad253.add ((x5_1).toNat * 16)).block,(ad253.add ((x5_1).toNat * 16)).off + 2,none⟩ = some (.int .i64 ((rd_T44 l0 x5_1).f2)) ∧ w'.cell? ⟨(ad253.add ((x5_1).toNat * 16)).block,(ad253.add ((x5_1).toNat * 16)).off + 3,none⟩ = some (.int .i64 ((rd_T44 l0 x5_1).f3.f0)) ∧ w'.cell? ⟨(ad253.add ((x5_1).toNat * 16)).block,(ad253.add ((x5_1).toNat * 16)).off + 4,none⟩ = some (.int .i64 ((rd_T44 l0 x5_1).f3.f1)) ∧ w'.cell? ⟨(ad253.add ((x5_1).toNat * 16)).block,(ad253.add ((x5_1).toNat * 16)).off + 5,none⟩ = some (.int .i64 ((rd_T44 l0 x5_1).f3.f2)) ∧ w'.cell? ⟨(ad253.add ((x5_1).toNat * 16)).block,(ad253.add ((x5_1).toNat * 16)).off + 6,none⟩ = some (.int .i64 ((rd_T44 l0 x5_1).f3.f3)) ∧ w'.cell? ⟨(ad253.add ((x5_1).toNat * 16)).block,(ad253.add ((x5_1).toNat * 16)).off + 7,none⟩ = some (.int .i64 ((rd_T44 l0 x5_1).f3.f4)) ∧ w'.cell? ⟨(ad253.add ((x5_1).toNat * 16)).block,(ad253.add ((x5_1).toNat * 16)).off + 8,none⟩ = some (.string ((rd_T44 l0 x5_1).f3.f5)) ∧ w'.cell? ⟨(ad253.add ((x5_1).toNat * 16)).block,(ad253.add ((x5_1).toNat * 16)).off + 9,none⟩ = some (.slice A253_9 0 c253_9) ∧ w'.cell? ⟨(ad253.add ((x5_1).toNat * 16)).block,(ad253.add ((x5_1).toNat * 16)).off + 10,none⟩ = some (.int .i64 ((rd_T44 l0 x5_1).f5.f0)) ∧ w'.cell? ⟨(ad253.add ((x5_1).toNat * 16)).block,(ad253.add ((x5_1).toNat * 16)).off + 11,none⟩ = some (.int .i64 ((rd_T44 l0 x5_1).f5.f1)) ∧ w'.cell? ⟨(ad253.add ((x5_1).toNat * 16)).block,(ad253.add ((x5_1).toNat * 16)).off + 12,none⟩ = some (.int .i64 ((rd_T44 l0 x5_1).f5.f2)) ∧ w'.cell? ⟨(ad253.add ((x5_1).toNat * 16)).block,(ad253.add ((x5_1).toNat * 16)).off + 13,none⟩ = some (.int .i64 ((rd_T44 l0 x5_1).f5.f3)) ∧ w'.cell? ⟨(ad253.add ((x5_1).toNat * 16)).block,(ad253.add ((x5_1).toNat * 16)).off + 14,none⟩ = some (.int .i64 ((rd_T44 l0 x5_1).f5.f4)) ∧ w'.cell? ⟨(ad253.add ((x5_1).toNat * 16)).block,(ad253.add ((x5_1).toNat * 16)).off + 15,none⟩ = some (.int .i64 ((rd_T44 l0 x5_1).f5.f5)) ∧ w'.cell? (ad254.add ((x5_1).toNat * 16)) = some (.int .i64 ((rd_T44 l1 x5_1).f0)) ∧ w'.cell? ⟨(ad254.add ((x5_1).toNat * 16)).block,(ad254.add ((x5_1).toNat * 16)).off + 1,none⟩ = some (.int .i64 ((rd_T44 l1 x5_1).f1)) ∧ w'.cell? ⟨(ad254.add ((x5_1).toNat * 16)).block,(ad254.add ((x5_1).toNat * 16)).off + 2,none⟩ = some (.int .i64 ((rd_T44 l1 x5_1).f2)) ∧ w'.cell? ⟨(ad254.add ((x5_1).toNat * 16)).block,(ad254.add ((x5_1).toNat * 16)).off + 3,none⟩ = some (.int .i64 ((rd_T44 l1 x5_1).f3.f0)) ∧ w'.cell? ⟨(ad254.add ((x5_1).toNat * 16)).block,(ad254.add ((x5_1).toNat * 16)).off + 4,none⟩ = some (.int .i64 ((rd_T44 l1 x5_1).f3.f1)) ∧ w'.cell? ⟨(ad254.add ((x5_1).toNat * 16)).block,(ad254.add ((x5_1).toNat * 16)).off + 5,none⟩ = some (.int .i64 ((rd_T44 l1 x5_1).f3.f2)) ∧ w'.cell? ⟨(ad254.add ((x5_1).toNat * 16)).block,(ad254.add ((x5_1).toNat * 16)).off + 6,none⟩ = some (.int .i64 ((rd_T44 l1 x5_1).f3.f3)) ∧ w'.cell? ⟨(ad254.add ((x5_1).toNat * 16)).block,(ad254.add ((x5_1).toNat * 16)).off + 7,none⟩ = some (.int .i64 ((rd_T44 l1 x5_1).f3.f4)) ∧ w'.cell? ⟨(ad254.add ((x5_1).toNat * 16)).block,(ad254.add ((x5_1).toNat * 16)).off + 8,none⟩ = some (.string ((rd_T44 l1 x5_1).f3.f5)) ∧ w'.cell? ⟨(ad254.add ((x5_1).toNat * 16)).block,(ad254.add ((x5_1).toNat * 16)).off + 9,none⟩ = some (.slice A254_9 0 c254_9) ∧ w'.cell? ⟨(ad254.add ((x5_1).toNat * 16)).block,(ad254.add ((x5_1).toNat * 16)).off + 10,none⟩ = some (.int .i64 ((rd_T44 l1 x5_1).f5.f0)) ∧ w'.cell? ⟨(ad254.add ((x5_1).toNat * 16)).block,(ad254.add ((x5_1).toNat * 16)).off + 11,none⟩ = some (.int .i64 ((rd_T44 l1 x5_1).f5.f1)) ∧ w'.cell? ⟨(ad254.add ((x5_1).toNat * 16)).block,(ad254.add ((x5_1).toNat * 16)).off + 12,none⟩ = some (.int .i64 ((rd_T44 l1 x5_1).f5.f2)) ∧ w'.cell? ⟨(ad254.add ((x5_1).toNat * 16)).block,(ad254.add ((x5_1).toNat * 16)).off + 13,none⟩ = some (.int .i64 ((rd_T44 l1 x5_1).f5.f3)) ∧ w'.cell? ⟨(ad254.add ((x5_1).toNat * 16)).block,(ad254.add ((x5_1).toNat * 16)).off + 14,none⟩ = some (.int .i64 ((rd_T44 l1 x5_1).f5.f4)) ∧ w'.cell? ⟨(ad254.add ((x5_1).toNat * 16)).block,(ad254.add ((x5_1).toNat * 16)).off + 15,none⟩ = some (.int .i64 ((rd_T44 l1 x5_1).f5.f5))) (ds := []) (bm 10 0) (by kernel_rfl) rfl rfl ⟨(cb HB.out hw253_0),(cb HB.out hw253_1),(cb HB.out hw253_2),(cb HB.out hw253_3),(cb HB.out hw253_4),(cb HB.out hw253_5),(cb HB.out hw253_6),(cb HB.out hw253_7),(cb HB.out hw253_8),(cb HB.out hw253_9),(cb HB.out hw253_10),(cb HB.out hw253_11),(cb HB.out hw253_12),(cb HB.out hw253_13),(cb HB.out hw253_14),(cb HB.out hw253_15),(cb HB.out hw254_0),(cb HB.out hw254_1),(cb HB.out hw254_2),(cb HB.out hw254_3),(cb HB.out hw254_4),(cb HB.out hw254_5),(cb HB.out hw254_6),(cb HB.out hw254_7),(cb HB.out hw254_8),(cb HB.out hw254_9),(cb HB.out hw254_10),(cb HB.out hw254_11),(cb HB.out hw254_12),(cb HB.out hw254_13),(cb HB.out hw254_14),(cb HB.out hw254_15)⟩ (fun hHeld => ?_); refine with_tabW laws_eqWorkerS.tab6 laws_eqWorkerS.bits6 (fun HT_ HW_ => ?_)
        generalize wr.drew = w11 at HB hx253_0 hx253_1 hx253_10 hx253_11 hx253_12 hx253_13 hx253_14 hx253_15 hx253_2 hx253_3 hx253_4 hx253_5 hx253_6 hx253_7 hx253_8 hx253_9 hx254_0 hx254_1 hx254_10 hx254_11 hx254_12 hx254_13 hx254_14 hx254_15 hx254_2 hx254_3 hx254_4 hx254_5 hx254_6 hx254_7 hx254_8 hx254_9 hHeld ⊢
        refine pV_ 0 17 (bm 10 1) HT_.out ?_
        refine pV_ 1 18 (bm 10 3) HT_.out ?_
        refine pV_ 2 19 (bm 10 7) HT_.out ?_
        refine pV_ 4 21 (bm 10 23) HT_.out ?_
        refine pV_ 5 22 (bm 10 55) HT_.out ?_
        refine pV_ 6 23 (bm 10 119) HT_.out ?_
        refine tk 3 20 (bm 10 127) HT_.out HW_.out hHeld ?_
        refine tk 7 24 (bm 10 255) HT_.out HW_.out hHeld ?_
        refine one_ (i:=8) (N:=some 25) (bm 10 511) rfl rfl (one_of HT_.out (by kernel_rfl)) (by decide) (fun K hK => ?_)
        refine goes_ Try.func35 (by kernel_rfl) rfl #[.agg #[.int .i64 ((rd_T44 l0 x5_1).f0),.int .i64 ((rd_T44 l0 x5_1).f1),.int .i64 ((rd_T44 l0 x5_1).f2),.int .i64 ((rd_T44 l0 x5_1).f3.f0),.int .i64 ((rd_T44 l0 x5_1).f3.f1),.int .i64 ((rd_T44 l0 x5_1).f3.f2),.int .i64 ((rd_T44 l0 x5_1).f3.f3),.int .i64 ((rd_T44 l0 x5_1).f3.f4),.string ((rd_T44 l0 x5_1).f3.f5),.slice A253_9 0 c253_9,.int .i64 ((rd_T44 l0 x5_1).f5.f0),.int .i64 ((rd_T44 l0 x5_1).f5.f1),.int .i64 ((rd_T44 l0 x5_1).f5.f2),.int .i64 ((rd_T44 l0 x5_1).f5.f3),.int .i64 ((rd_T44 l0 x5_1).f5.f4),.int .i64 ((rd_T44 l0 x5_1).f5.f5)],.agg #[.int .i64 ((rd_T44 l1 x5_1).f0),.int .i64 ((rd_T44 l1 x5_1).f1),.int .i64 ((rd_T44 l1 x5_1).f2),.int .i64 ((rd_T44 l1 x5_1).f3.f0),.int .i64 ((rd_T44 l1 x5_1).f3.f1),.int .i64 ((rd_T44 l1 x5_1).f3.f2),.int .i64 ((rd_T44 l1 x5_1).f3.f3),.int .i64 ((rd_T44 l1 x5_1).f3.f4),.string ((rd_T44 l1 x5_1).f3.f5),.slice A254_9 0 c254_9,.int .i64 ((rd_T44 l1 x5_1).f5.f0),.int .i64 ((rd_T44 l1 x5_1).f5.f1),.int .i64 ((rd_T44 l1 x5_1).f5.f2),.int .i64 ((rd_T44 l1 x5_1).f5.f3),.int .i64 ((rd_T44 l1 x5_1).f5.f4),.int .i64 ((rd_T44 l1 x5_1).f5.f5)]] (by rfl) rfl rfl mA ?_
        with_reducible refine (laws_eqWorker.calls k1 ((rd_T44 l0 x5_1).f0) ((rd_T44 l0 x5_1).f1) ((rd_T44 l0 x5_1).f2) ((rd_T44 l0 x5_1).f3.f0) ((rd_T44 l0 x5_1).f3.f1) ((rd_T44 l0 x5_1).f3.f2) ((rd_T44 l0 x5_1).f3.f3) ((rd_T44 l0 x5_1).f3.f4) ((rd_T44 l0 x5_1).f3.f5) _ _ ((rd_T44 l0 x5_1).f4) ((rd_T44 l0 x5_1).f5.f0) ((rd_T44 l0 x5_1).f5.f1) ((rd_T44 l0 x5_1).f5.f2) ((rd_T44 l0 x5_1).f5.f3) ((rd_T44 l0 x5_1).f5.f4) ((rd_T44 l0 x5_1).f5.f5) ((rd_T44 l1 x5_1).f0) ((rd_T44 l1 x5_1).f1) ((rd_T44 l1 x5_1).f2) ((rd_T44 l1 x5_1).f3.f0) ((rd_T44 l1 x5_1).f3.f1) ((rd_T44 l1 x5_1).f3.f2) ((rd_T44 l1 x5_1).f3.f3) ((rd_T44 l1 x5_1).f3.f4) ((rd_T44 l1 x5_1).f3.f5) _ _ ((rd_T44 l1 x5_1).f4) ((rd_T44 l1 x5_1).f5.f0) ((rd_T44 l1 x5_1).f5.f1) ((rd_T44 l1 x5_1).f5.f2) ((rd_T44 l1 x5_1).f5.f3) ((rd_T44 l1 x5_1).f5.f4) ((rd_T44 l1 x5_1).f5.f5) false _ A7.out).mono ?_
        rintro e w12 ⟨rfl,hb⟩
        refine ⟨_,rfl,?_⟩
        replace HB := bsA hb
        clear hb
        refine hK.out _ _ ⟨(cb HB.out hw253_0),(cb HB.out hw253_1),(cb HB.out hw253_2),(cb HB.out hw253_3),(cb HB.out hw253_4),(cb HB.out hw253_5),(cb HB.out hw253_6),(cb HB.out hw253_7),(cb HB.out hw253_8),(cb HB.out hw253_9),(cb HB.out hw253_10),(cb HB.out hw253_11),(cb HB.out hw253_12),(cb HB.out hw253_13),(cb HB.out hw253_14),(cb HB.out hw253_15),(cb HB.out hw254_0),(cb HB.out hw254_1),(cb HB.out hw254_2),(cb HB.out hw254_3),(cb HB.out hw254_4),(cb HB.out hw254_5),(cb HB.out hw254_6),(cb HB.out hw254_7),(cb HB.out hw254_8),(cb HB.out hw254_9),(cb HB.out hw254_10),(cb HB.out hw254_11),(cb HB.out hw254_12),(cb HB.out hw254_13),(cb HB.out hw254_14),(cb HB.out hw254_15)⟩ (fun hHeld => ?_)
        clear hK K
        refine nw 25 ?_
        refine pV_ 9 26 (bm 10 1023) HT_.out ?_
        refine done_ (done_of HT_.out (by kernel_rfl)) ?_
        try go_wp2
        go_ret
        exact ⟨by first | rfl | (simp only [i64_w,i32_w] <;> rfl) | (simp [errW_none,errW_some] <;> rfl) | (simp [*,errW_none,errW_some] <;> rfl),bA⟩
      ·rw [if_neg c6] at H
       exact absurd H (by simp)
     ·rw [if_neg c5] at H
      exact absurd H (by simp)
    ·rw [if_neg c4] at H
     have c4b0 : decide (x5_1 < (l0.length : Int)) = false := decide_eq_false c4
     clear c4
     obtain rfl := Option.some.inj H
     go_wp2
     go_ret
     exact ⟨by first | rfl | (simp only [i64_w,i32_w] <;> rfl) | (simp [errW_none,errW_some] <;> rfl) | (simp [*,errW_none,errW_some] <;> rfl),bA⟩
 ·rw [if_neg c3] at H
  have c3b0 : ((l0.length : Int) == (l1.length : Int)) = false := beq_eq_false_iff_ne.mpr c3
  have c3b1 : ((l0.length : Int) != (l1.length : Int)) = true := bne_iff_ne.mpr c3
  have c3b2 : (l0.length == l1.length) = false := by first | simpa using c3 | (simp at c3 ⊢; omega)
  obtain rfl := Option.some.inj H
  go_enter Try.func13,Try.ntmps13
  go_wp2
  go_ret
  exact ⟨by first | rfl | (simp only [i64_w,i32_w] <;> rfl) | (simp [errW_none,errW_some] <;> rfl) | (simp [*,errW_none,errW_some] <;> rfl),bA⟩

/-! ### laws_eqSample: function 38 -/
def laws_eqSample.f (a0_0 : Int) (a0_1 : Int) (a1_0 : Int) (a1_1 : Int) : Option (Bool) := if a0_0 = a1_0 then (if a0_1 = a1_1 then (some true) else (some false)) else (some false)
set_option maxHeartbeats 8000000 in
set_option maxRecDepth 100000 in
theorem laws_eqSample.calls (a0_0 : Int) (a0_1 : Int) (a1_0 : Int) (a1_1 : Int) (r : Bool) (w : World) (h : laws_eqSample.f a0_0 a0_1 a1_0 a1_1 = some r) :
  Calls Try.prog 38 #[.agg #[.int .i64 a0_0,.int .i64 a0_1],.agg #[.int .i64 a1_0,.int .i64 a1_1]] w fun e w' => e = .returned (.bool r) ∧ Below w.heap.size w w' := by
 have hu74 := Try.underlying74
 have HB := Aside0.mk (Below.refl w.heap.size w)
 have H : (if a0_0 = a1_0 then (if a0_1 = a1_1 then (some true) else (some false)) else (some false)) = some r := h
 clear h
 by_cases c3 : a0_0 = a1_0
 ·rw [if_pos c3] at H
  have c3b0 : (a0_0 == a1_0) = true := beq_iff_eq.mpr c3
  have c3b1 : (a0_0 != a1_0) = false := bne_eq_false_iff_eq.mpr c3
  clear c3
  by_cases c4 : a0_1 = a1_1
  ·rw [if_pos c4] at H
   have c4b0 : (a0_1 == a1_1) = true := beq_iff_eq.mpr c4
   have c4b1 : (a0_1 != a1_1) = false := bne_eq_false_iff_eq.mpr c4
   clear c4
   obtain rfl := Option.some.inj H
   go_enter Try.func38,Try.ntmps38
   go_wp2
   go_ret
   exact ⟨by first | rfl | (simp [errW_none,errW_some] <;> rfl) | (simp [*,errW_none,errW_some] <;> rfl),bA⟩
  ·rw [if_neg c4] at H
   have c4b0 : (a0_1 == a1_1) = false := beq_eq_false_iff_ne.mpr c4
   have c4b1 : (a0_1 != a1_1) = true := bne_iff_ne.mpr c4
   obtain rfl := Option.some.inj H
   go_enter Try.func38,Try.ntmps38
   go_wp2
   go_ret
   exact ⟨by first | rfl | (simp [errW_none,errW_some] <;> rfl) | (simp [*,errW_none,errW_some] <;> rfl),bA⟩
 ·rw [if_neg c3] at H
  have c3b0 : (a0_0 == a1_0) = false := beq_eq_false_iff_ne.mpr c3
  have c3b1 : (a0_0 != a1_0) = true := bne_iff_ne.mpr c3
  obtain rfl := Option.some.inj H
  go_enter Try.func38,Try.ntmps38
  go_wp2
  go_ret
  exact ⟨by first | rfl | (simp [errW_none,errW_some] <;> rfl) | (simp [*,errW_none,errW_some] <;> rfl),bA⟩

end Go.Proofs.Ytmfichcgmofpkaa.XFnExactNewFleet
