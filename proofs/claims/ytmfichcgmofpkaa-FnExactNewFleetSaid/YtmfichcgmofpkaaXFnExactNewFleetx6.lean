-- Printed by this session's own program wip/tools/xprint.py, which widens the kit's print. Not trusted: Lean checks it.
import Derived.Test.YtmfichcgmofpkaaXFnExactNewFleetx0
import Derived.Test.YtmfichcgmofpkaaXFnExactNewFleetx3
import Derived.Test.YtmfichcgmofpkaaXFnExactNewFleetx5
namespace Go.Proofs.Ytmfichcgmofpkaa.XFnExactNewFleet
open List (setIfInBounds_toArray set_cons_zero set_cons_succ)
open Go.RowKit Go.Proofs.YtmfichcgmofpkaaW.PrintWords Go.Proofs.YtmfichcgmofpkaaW.PrintLast Go.Proofs.YtmfichcgmofpkaaW.PrintMore
attribute [local go_sem] max2_int min2_int max_two min_two max_three min_three max_four min_four   -- for this text's walks alone
set_option linter.unusedVariables false
set_option linter.unusedSimpArgs false

/-! ### laws_eqIngesterS: function 14 -/
def laws_eqIngesterS.l0 : Nat → List (S46) → List (S46) → Int → Option (Bool)
 | 0,_,_,_ => none
 | k + 1,x0,x1,x5 => if x5 < (x0.length : Int) then (if 0 ≤ x5 then (if x5 < (x1.length : Int) then ((laws_eqIngester.f k ((rd_T46 x0 x5).f0) ((rd_T46 x0 x5).f1) ((rd_T46 x0 x5).f2) ((rd_T46 x0 x5).f3) ((rd_T46 x0 x5).f4) ((rd_T46 x0 x5).f5) ((rd_T46 x1 x5).f0) ((rd_T46 x1 x5).f1) ((rd_T46 x1 x5).f2) ((rd_T46 x1 x5).f3) ((rd_T46 x1 x5).f4) ((rd_T46 x1 x5).f5)).bind fun t266 => (if t266 = true then (laws_eqIngesterS.l0 k x0 x1 (wrap64 (x5 + 1))) else (some false))) else (none)) else (none)) else (some true)
def laws_eqIngesterS.f (k : Nat) (l0 : List (S46)) (l1 : List (S46)) : Option (Bool) := if (l0.length : Int) = (l1.length : Int) then (laws_eqIngesterS.l0 k l0 l1 0) else (some false)
theorem laws_eqIngesterS.mono_l : ∀ k,(∀ y0 y1 y2,LeO (laws_eqIngesterS.l0 k y0 y1 y2) (laws_eqIngesterS.l0 (k + 1) y0 y1 y2))
 | 0 => fun _ _ _ r h => by simp [laws_eqIngesterS.l0] at h
 | k + 1 => by
  have ih0 := laws_eqIngesterS.mono_l k
  ·intro y0 y1 y2
   unfold laws_eqIngesterS.l0
   repeat' first
   | (with_reducible first | exact ih0 .. | exact laws_eqIngester.mono .. | exact LeO.refl _ | exact LeO.none _ | refine LeO.ite ?_ ?_ | refine LeO.bind ?_ (fun _ => ?_))
   | exact LeO.none _ | refine LeO.ite ?_ ?_ | refine LeO.bind ?_ (fun _ => ?_)
theorem laws_eqIngesterS.mono : ∀ a0 a1 k,LeO (laws_eqIngesterS.f k a0 a1) (laws_eqIngesterS.f (k + 1) a0 a1) := by
 intro a0 a1 k
 have ih0 := laws_eqIngesterS.mono_l k
 unfold laws_eqIngesterS.f
 repeat' first
 | (with_reducible first | exact ih0 .. | exact laws_eqIngester.mono .. | exact LeO.refl _ | exact LeO.none _ | refine LeO.ite ?_ ?_ | refine LeO.bind ?_ (fun _ => ?_))
 | exact LeO.none _ | refine LeO.ite ?_ ?_ | refine LeO.bind ?_ (fun _ => ?_)
def laws_eqIngesterS.T6 : Bool × List (List Nat × List Nat) := (true,[([],[]),([],[]),([0,1],[0,1]),([2],[2]),([],[]),([],[]),([4,5],[4,5]),([6],[6]),([3,7],[3,7]),([8],[8])])
def laws_eqIngesterS.B6 : List Nat := [0,0,3,7,0,0,48,112,255,511]
theorem laws_eqIngesterS.tab6 : rtab .any (opsOf Try.f14 6) = laws_eqIngesterS.T6 := by kernel_rfl
theorem laws_eqIngesterS.bits6 : waitsOk laws_eqIngesterS.T6.2 laws_eqIngesterS.B6 = true := by kernel_rfl
set_option maxHeartbeats 8000000 in
set_option maxRecDepth 100000 in
theorem laws_eqIngesterS.calls (k : Nat) (A0 : Option Addr) (c0 : Nat) (l0 : List (S46)) (A1 : Option Addr) (c1 : Nat) (l1 : List (S46)) (r : Bool) (w : World) (hr0 : Kd.C k46 w A0 l0.length l0) (hc0 : l0.length ≤ c0) (hr1 : Kd.C k46 w A1 l1.length l1) (hc1 : l1.length ≤ c1) (h : laws_eqIngesterS.f k l0 l1 = some r) :
  Calls Try.prog 14 #[.slice A0 l0.length c0,.slice A1 l1.length c1] w fun e w' => e = .returned (.bool r) ∧ Below w.heap.size w w' := by
 have hu46 := Try.underlying46
 have HR0 := Aside0.mk hr0
 have HC0 := Aside0.mk hc0
 clear hr0 hc0
 have HR1 := Aside0.mk hr1
 have HC1 := Aside0.mk hc1
 clear hr1 hc1
 have HB := Aside0.mk (Below.refl w.heap.size w)
 have H : (if (l0.length : Int) = (l1.length : Int) then (laws_eqIngesterS.l0 k l0 l1 0) else (some false)) = some r := h
 clear h
 by_cases c3 : (l0.length : Int) = (l1.length : Int)
 ·rw [if_pos c3] at H
  have c3b0 : ((l0.length : Int) == (l1.length : Int)) = true := beq_iff_eq.mpr c3
  have c3b1 : ((l0.length : Int) != (l1.length : Int)) = false := bne_eq_false_iff_eq.mpr c3
  have c3b2 : (l0.length == l1.length) = true := by first | simpa using c3 | (simp at c3 ⊢; omega)
  clear c3
  have H' := Aside0.mk H
  clear H
  go_enter Try.func14,Try.ntmps14
  go_wp2
  go_loopg [5] k (fun kq v5 w' => ∃ (x5_1 : Int),v5 = .int .i64 x5_1 ∧ Aside0 (laws_eqIngesterS.l0 kq l0 l1 x5_1 = some r) ∧ Aside0 (kq ≤ k) ∧ Aside0 (Below w.heap.size w w'))
  case atStart => exact ⟨(0),(by first | rfl | (simp; done) | (simp [*]; done)),H',⟨Nat.le_refl _⟩,⟨bA⟩⟩
  case round =>
   clear H'
   try clear c1
   try clear p2
   try clear c3
   try clear c3b0
   try clear c3b1
   try clear c3b2
   obtain ⟨x5_1,rfl,HA,HK1,HB⟩ := hrel
   cases gk with
   | zero => exact absurd HA.out (by simp [laws_eqIngesterS.l0])
   | succ k1 =>
    have H := HA.out
    clear HA
    simp only [laws_eqIngesterS.l0] at H
    by_cases c4 : x5_1 < (l0.length : Int)
    ·rw [if_pos c4] at H
     have c4b0 : decide (x5_1 < (l0.length : Int)) = true := decide_eq_true c4
     clear c4
     by_cases c5 : 0 ≤ x5_1
     ·rw [if_pos c5] at H
      have c5b0 : decide (0 ≤ x5_1) = true := decide_eq_true c5
      clear c5
      by_cases c6 : x5_1 < (l1.length : Int)
      ·rw [if_pos c6] at H
       have c6b0 : decide (x5_1 < (l1.length : Int)) = true := decide_eq_true c6
       clear c6
       replace H := Option.bind_eq_some_iff.mp H
       obtain ⟨t266,A70,H⟩ := H
       try dsimp only at H
       have A7 := Aside0.mk A70
       clear A70
       by_cases c8 : t266 = true
       ·subst c8
        rw [if_pos rfl] at H
        have H' := Aside0.mk H
        clear H
        try go_wp2
        replace HB := Aside0.mk (below_drew1 HB.out)
        have p264 : 0 ≤ (x5_1 : Int) := od
        have q264 : x5_1 < (l0.length : Int) := od
        obtain ⟨ad264,A264_4,c264_4,e264,hx264_0,hx264_1,hx264_2,hx264_3,hx264_4,hx264_5⟩ := at_T46 HR0.out x5_1 p264 q264
        have hw264_5 := hx264_5
        have hw264_4 := hx264_4
        have hw264_3 := hx264_3
        have hw264_2 := hx264_2
        have hw264_1 := hx264_1
        have hw264_0 := hx264_0
        cases e264
        replace hx264_0 := cb HB.out hx264_0
        replace hx264_1 := cb HB.out hx264_1
        replace hx264_2 := cb HB.out hx264_2
        replace hx264_3 := cb HB.out hx264_3
        replace hx264_4 := cb HB.out hx264_4
        replace hx264_5 := cb HB.out hx264_5
        replace p264 := eq_true p264
        replace q264 := eq_true q264
        have p265 : 0 ≤ (x5_1 : Int) := od
        have q265 : x5_1 < (l1.length : Int) := od
        obtain ⟨ad265,A265_4,c265_4,e265,hx265_0,hx265_1,hx265_2,hx265_3,hx265_4,hx265_5⟩ := at_T46 HR1.out x5_1 p265 q265
        have hw265_5 := hx265_5
        have hw265_4 := hx265_4
        have hw265_3 := hx265_3
        have hw265_2 := hx265_2
        have hw265_1 := hx265_1
        have hw265_0 := hx265_0
        cases e265
        replace hx265_0 := cb HB.out hx265_0
        replace hx265_1 := cb HB.out hx265_1
        replace hx265_2 := cb HB.out hx265_2
        replace hx265_3 := cb HB.out hx265_3
        replace hx265_4 := cb HB.out hx265_4
        replace hx265_5 := cb HB.out hx265_5
        replace p265 := eq_true p265
        replace q265 := eq_true q265
        refine start_ (n:=10) (S:=fun w' => w'.cell? (ad264.add ((x5_1).toNat * 6)) = some (.int .i64 ((rd_T46 l0 x5_1).f0)) ∧ w'.cell? ⟨(ad264.add ((x5_1).toNat * 6)).block,(ad264.add ((x5_1).toNat * 6)).off + 1,none⟩ = some (.int .i64 ((rd_T46 l0 x5_1).f1)) ∧ w'.cell? ⟨(ad264.add ((x5_1).toNat * 6)).block,(ad264.add ((x5_1).toNat * 6)).off + 2,none⟩ = some (.int .i64 ((rd_T46 l0 x5_1).f2)) ∧ w'.cell? ⟨(ad264.add ((x5_1).toNat * 6)).block,(ad264.add ((x5_1).toNat * 6)).off + 3,none⟩ = some (.int .i64 ((rd_T46 l0 x5_1).f3)) ∧ w'.cell? ⟨(ad264.add ((x5_1).toNat * 6)).block,(ad264.add ((x5_1).toNat * 6)).off + 4,none⟩ = some (.slice A264_4 0 c264_4) ∧ w'.cell? ⟨(ad264.add ((x5_1).toNat * 6)).block,(ad264.add ((x5_1).toNat * 6)).off + 5,none⟩ = some (.bool ((rd_T46 l0 x5_1).f5)) ∧ w'.cell? (ad265.add ((x5_1).toNat * 6)) = some (.int .i64 ((rd_T46 l1 x5_1).f0)) ∧ w'.cell? ⟨(ad265.add ((x5_1).toNat * 6)).block,(ad265.add ((x5_1).toNat * 6)).off + 1,none⟩ = some (.int .i64 ((rd_T46 l1 x5_1).f1)) ∧ w'.cell? ⟨(ad265.add ((x5_1).toNat * 6)).block,(ad265.add ((x5_1).toNat * 6)).off + 2,none⟩ = some (.int .i64 ((rd_T46 l1 x5_1).f2)) ∧ w'.cell? ⟨(ad265.add ((x5_1).toNat * 6)).block,(ad265.add ((x5_1).toNat * 6)).off + 3,none⟩ = some (.int .i64 ((rd_T46 l1 x5_1).f3)) ∧ w'.cell? ⟨(ad265.add ((x5_1).toNat * 6)).block,(ad265.add ((x5_1).toNat * 6)).off + 4,none⟩ = some (.slice A265_4 0 c265_4) ∧ w'.cell? ⟨(ad265.add ((x5_1).toNat * 6)).block,(ad265.add ((x5_1).toNat * 6)).off + 5,none⟩ = some (.bool ((rd_T46 l1 x5_1).f5))) (ds := []) (bm 10 0) (by kernel_rfl) rfl rfl ⟨(cb HB.out hw264_0),(cb HB.out hw264_1),(cb HB.out hw264_2),(cb HB.out hw264_3),(cb HB.out hw264_4),(cb HB.out hw264_5),(cb HB.out hw265_0),(cb HB.out hw265_1),(cb HB.out hw265_2),(cb HB.out hw265_3),(cb HB.out hw265_4),(cb HB.out hw265_5)⟩ (fun hHeld => ?_); refine with_tabW laws_eqIngesterS.tab6 laws_eqIngesterS.bits6 (fun HT_ HW_ => ?_)
        generalize wr.drew = w9 at HB hx264_0 hx264_1 hx264_2 hx264_3 hx264_4 hx264_5 hx265_0 hx265_1 hx265_2 hx265_3 hx265_4 hx265_5 hHeld ⊢
        refine pV_ 0 17 (bm 10 1) HT_.out ?_
        refine pV_ 1 18 (bm 10 3) HT_.out ?_
        refine pV_ 2 19 (bm 10 7) HT_.out ?_
        refine pV_ 4 21 (bm 10 23) HT_.out ?_
        refine pV_ 5 22 (bm 10 55) HT_.out ?_
        refine pV_ 6 23 (bm 10 119) HT_.out ?_
        refine tk 3 20 (bm 10 127) HT_.out HW_.out hHeld ?_
        refine tk 7 24 (bm 10 255) HT_.out HW_.out hHeld ?_
        refine one_ (i:=8) (N:=some 25) (bm 10 511) rfl rfl (one_of HT_.out (by kernel_rfl)) (by decide) (fun K hK => ?_)
        refine goes_ Try.func36 (by kernel_rfl) rfl #[.agg #[.int .i64 ((rd_T46 l0 x5_1).f0),.int .i64 ((rd_T46 l0 x5_1).f1),.int .i64 ((rd_T46 l0 x5_1).f2),.int .i64 ((rd_T46 l0 x5_1).f3),.slice A264_4 0 c264_4,.bool ((rd_T46 l0 x5_1).f5)],.agg #[.int .i64 ((rd_T46 l1 x5_1).f0),.int .i64 ((rd_T46 l1 x5_1).f1),.int .i64 ((rd_T46 l1 x5_1).f2),.int .i64 ((rd_T46 l1 x5_1).f3),.slice A265_4 0 c265_4,.bool ((rd_T46 l1 x5_1).f5)]] (by rfl) rfl rfl mA ?_
        with_reducible refine (laws_eqIngester.calls k1 ((rd_T46 l0 x5_1).f0) ((rd_T46 l0 x5_1).f1) ((rd_T46 l0 x5_1).f2) ((rd_T46 l0 x5_1).f3) _ _ ((rd_T46 l0 x5_1).f4) ((rd_T46 l0 x5_1).f5) ((rd_T46 l1 x5_1).f0) ((rd_T46 l1 x5_1).f1) ((rd_T46 l1 x5_1).f2) ((rd_T46 l1 x5_1).f3) _ _ ((rd_T46 l1 x5_1).f4) ((rd_T46 l1 x5_1).f5) true _ A7.out).mono ?_
        rintro e w10 ⟨rfl,hb⟩
        refine ⟨_,rfl,?_⟩
        replace HB := bsA hb
        clear hb
        refine hK.out _ _ ⟨(cb HB.out hw264_0),(cb HB.out hw264_1),(cb HB.out hw264_2),(cb HB.out hw264_3),(cb HB.out hw264_4),(cb HB.out hw264_5),(cb HB.out hw265_0),(cb HB.out hw265_1),(cb HB.out hw265_2),(cb HB.out hw265_3),(cb HB.out hw265_4),(cb HB.out hw265_5)⟩ (fun hHeld => ?_)
        clear hK K
        refine nw 25 ?_
        refine pV_ 9 26 (bm 10 1023) HT_.out ?_
        refine done_ (done_of HT_.out (by kernel_rfl)) ?_
        try go_wp2
        go_roundg k1
        case measure => have := HK1.out; omega
        case rel => exact ⟨(wrap64 (x5_1 + 1)),(by first | rfl | (simp; done) | (simp [*]; done)),H',⟨by have := HK1.out; omega⟩,⟨bA⟩⟩
       ·replace c8 := Bool.eq_false_iff.mpr c8
        subst c8
        rw [if_neg (show ¬ (false = true) by decide)] at H
        obtain rfl := Option.some.inj H
        try go_wp2
        replace HB := Aside0.mk (below_drew1 HB.out)
        have p264 : 0 ≤ (x5_1 : Int) := od
        have q264 : x5_1 < (l0.length : Int) := od
        obtain ⟨ad264,A264_4,c264_4,e264,hx264_0,hx264_1,hx264_2,hx264_3,hx264_4,hx264_5⟩ := at_T46 HR0.out x5_1 p264 q264
        have hw264_5 := hx264_5
        have hw264_4 := hx264_4
        have hw264_3 := hx264_3
        have hw264_2 := hx264_2
        have hw264_1 := hx264_1
        have hw264_0 := hx264_0
        cases e264
        replace hx264_0 := cb HB.out hx264_0
        replace hx264_1 := cb HB.out hx264_1
        replace hx264_2 := cb HB.out hx264_2
        replace hx264_3 := cb HB.out hx264_3
        replace hx264_4 := cb HB.out hx264_4
        replace hx264_5 := cb HB.out hx264_5
        replace p264 := eq_true p264
        replace q264 := eq_true q264
        have p265 : 0 ≤ (x5_1 : Int) := od
        have q265 : x5_1 < (l1.length : Int) := od
        obtain ⟨ad265,A265_4,c265_4,e265,hx265_0,hx265_1,hx265_2,hx265_3,hx265_4,hx265_5⟩ := at_T46 HR1.out x5_1 p265 q265
        have hw265_5 := hx265_5
        have hw265_4 := hx265_4
        have hw265_3 := hx265_3
        have hw265_2 := hx265_2
        have hw265_1 := hx265_1
        have hw265_0 := hx265_0
        cases e265
        replace hx265_0 := cb HB.out hx265_0
        replace hx265_1 := cb HB.out hx265_1
        replace hx265_2 := cb HB.out hx265_2
        replace hx265_3 := cb HB.out hx265_3
        replace hx265_4 := cb HB.out hx265_4
        replace hx265_5 := cb HB.out hx265_5
        replace p265 := eq_true p265
        replace q265 := eq_true q265
        refine start_ (n:=10) (S:=fun w' => w'.cell? (ad264.add ((x5_1).toNat * 6)) = some (.int .i64 ((rd_T46 l0 x5_1).f0)) ∧ w'.cell? ⟨(ad264.add ((x5_1).toNat * 6)).block,(ad264.add ((x5_1).toNat * 6)).off + 1,none⟩ = some (.int .i64 ((rd_T46 l0 x5_1).f1)) ∧ w'.cell? ⟨(ad264.add ((x5_1).toNat * 6)).block,(ad264.add ((x5_1).toNat * 6)).off + 2,none⟩ = some (.int .i64 ((rd_T46 l0 x5_1).f2)) ∧ w'.cell? ⟨(ad264.add ((x5_1).toNat * 6)).block,(ad264.add ((x5_1).toNat * 6)).off + 3,none⟩ = some (.int .i64 ((rd_T46 l0 x5_1).f3)) ∧ w'.cell? ⟨(ad264.add ((x5_1).toNat * 6)).block,(ad264.add ((x5_1).toNat * 6)).off + 4,none⟩ = some (.slice A264_4 0 c264_4) ∧ w'.cell? ⟨(ad264.add ((x5_1).toNat * 6)).block,(ad264.add ((x5_1).toNat * 6)).off + 5,none⟩ = some (.bool ((rd_T46 l0 x5_1).f5)) ∧ w'.cell? (ad265.add ((x5_1).toNat * 6)) = some (.int .i64 ((rd_T46 l1 x5_1).f0)) ∧ w'.cell? ⟨(ad265.add ((x5_1).toNat * 6)).block,(ad265.add ((x5_1).toNat * 6)).off + 1,none⟩ = some (.int .i64 ((rd_T46 l1 x5_1).f1)) ∧ w'.cell? ⟨(ad265.add ((x5_1).toNat * 6)).block,(ad265.add ((x5_1).toNat * 6)).off + 2,none⟩ = some (.int .i64 ((rd_T46 l1 x5_1).f2)) ∧ w'.cell? ⟨(ad265.add ((x5_1).toNat * 6)).block,(ad265.add ((x5_1).toNat * 6)).off + 3,none⟩ = some (.int .i64 ((rd_T46 l1 x5_1).f3)) ∧ w'.cell? ⟨(ad265.add ((x5_1).toNat * 6)).block,(ad265.add ((x5_1).toNat * 6)).off + 4,none⟩ = some (.slice A265_4 0 c265_4) ∧ w'.cell? ⟨(ad265.add ((x5_1).toNat * 6)).block,(ad265.add ((x5_1).toNat * 6)).off + 5,none⟩ = some (.bool ((rd_T46 l1 x5_1).f5))) (ds := []) (bm 10 0) (by kernel_rfl) rfl rfl ⟨(cb HB.out hw264_0),(cb HB.out hw264_1),(cb HB.out hw264_2),(cb HB.out hw264_3),(cb HB.out hw264_4),(cb HB.out hw264_5),(cb HB.out hw265_0),(cb HB.out hw265_1),(cb HB.out hw265_2),(cb HB.out hw265_3),(cb HB.out hw265_4),(cb HB.out hw265_5)⟩ (fun hHeld => ?_); refine with_tabW laws_eqIngesterS.tab6 laws_eqIngesterS.bits6 (fun HT_ HW_ => ?_)
        generalize wr.drew = w11 at HB hx264_0 hx264_1 hx264_2 hx264_3 hx264_4 hx264_5 hx265_0 hx265_1 hx265_2 hx265_3 hx265_4 hx265_5 hHeld ⊢
        refine pV_ 0 17 (bm 10 1) HT_.out ?_
        refine pV_ 1 18 (bm 10 3) HT_.out ?_
        refine pV_ 2 19 (bm 10 7) HT_.out ?_
        refine pV_ 4 21 (bm 10 23) HT_.out ?_
        refine pV_ 5 22 (bm 10 55) HT_.out ?_
        refine pV_ 6 23 (bm 10 119) HT_.out ?_
        refine tk 3 20 (bm 10 127) HT_.out HW_.out hHeld ?_
        refine tk 7 24 (bm 10 255) HT_.out HW_.out hHeld ?_
        refine one_ (i:=8) (N:=some 25) (bm 10 511) rfl rfl (one_of HT_.out (by kernel_rfl)) (by decide) (fun K hK => ?_)
        refine goes_ Try.func36 (by kernel_rfl) rfl #[.agg #[.int .i64 ((rd_T46 l0 x5_1).f0),.int .i64 ((rd_T46 l0 x5_1).f1),.int .i64 ((rd_T46 l0 x5_1).f2),.int .i64 ((rd_T46 l0 x5_1).f3),.slice A264_4 0 c264_4,.bool ((rd_T46 l0 x5_1).f5)],.agg #[.int .i64 ((rd_T46 l1 x5_1).f0),.int .i64 ((rd_T46 l1 x5_1).f1),.int .i64 ((rd_T46 l1 x5_1).f2),.int .i64 ((rd_T46 l1 x5_1).f3),.slice A265_4 0 c265_4,.bool ((rd_T46 l1 x5_1).f5)]] (by rfl) rfl rfl mA ?_
        with_reducible refine (laws_eqIngester.calls k1 ((rd_T46 l0 x5_1).f0) ((rd_T46 l0 x5_1).f1) ((rd_T46 l0 x5_1).f2) ((rd_T46 l0 x5_1).f3) _ _ ((rd_T46 l0 x5_1).f4) ((rd_T46 l0 x5_1).f5) ((rd_T46 l1 x5_1).f0) ((rd_T46 l1 x5_1).f1) ((rd_T46 l1 x5_1).f2) ((rd_T46 l1 x5_1).f3) _ _ ((rd_T46 l1 x5_1).f4) ((rd_T46 l1 x5_1).f5) false _ A7.out).mono ?_
        rintro e w12 ⟨rfl,hb⟩
        refine ⟨_,rfl,?_⟩
        replace HB := bsA hb
        clear hb
        refine hK.out _ _ ⟨(cb HB.out hw264_0),(cb HB.out hw264_1),(cb HB.out hw264_2),(cb HB.out hw264_3),(cb HB.out hw264_4),(cb HB.out hw264_5),(cb HB.out hw265_0),(cb HB.out hw265_1),(cb HB.out hw265_2),(cb HB.out hw265_3),(cb HB.out hw265_4),(cb HB.out hw265_5)⟩ (fun hHeld => ?_)
        clear hK K
        refine nw 25 ?_
        refine pV_ 9 26 (bm 10 1023) HT_.out ?_
        refine done_ (done_of HT_.out (by kernel_rfl)) ?_
        try go_wp2
        go_ret
        exact ⟨by first | rfl | (simp only [i64_w,i32_w] <;> rfl) | (simp [errW_none,errW_some] <;> rfl) | (simp [*,errW_none,errW_some] <;> rfl),bA⟩
      ·rw [if_neg c6] at H
       exact absurd H (by simp)
     ·rw [if_neg c5] at H
      exact absurd H (by simp)
    ·rw [if_neg c4] at H
     have c4b0 : decide (x5_1 < (l0.length : Int)) = false := decide_eq_false c4
     clear c4
     obtain rfl := Option.some.inj H
     go_wp2
     go_ret
     exact ⟨by first | rfl | (simp only [i64_w,i32_w] <;> rfl) | (simp [errW_none,errW_some] <;> rfl) | (simp [*,errW_none,errW_some] <;> rfl),bA⟩
 ·rw [if_neg c3] at H
  have c3b0 : ((l0.length : Int) == (l1.length : Int)) = false := beq_eq_false_iff_ne.mpr c3
  have c3b1 : ((l0.length : Int) != (l1.length : Int)) = true := bne_iff_ne.mpr c3
  have c3b2 : (l0.length == l1.length) = false := by first | simpa using c3 | (simp at c3 ⊢; omega)
  obtain rfl := Option.some.inj H
  go_enter Try.func14,Try.ntmps14
  go_wp2
  go_ret
  exact ⟨by first | rfl | (simp only [i64_w,i32_w] <;> rfl) | (simp [errW_none,errW_some] <;> rfl) | (simp [*,errW_none,errW_some] <;> rfl),bA⟩

/-! ### laws_eqReader: function 37 -/
def laws_eqReader.f (k : Nat) (a0_0 : Int) (a0_1 : Int) (a0_2 : Int) (a0_3 : Int) (a0_4 : Int) (a0_5 : Int) (a0_6 : Int) (a0_7 : Int) (a0_8 : Int) (a0_9 : Int) (a0_10 : Int) (a0_11 : Int) (a0_12 : Int) (a0_13 : Int) (a1_0 : Int) (a1_1 : Int) (a1_2 : Int) (a1_3 : Int) (a1_4 : Int) (a1_5 : Int) (a1_6 : Int) (a1_7 : Int) (a1_8 : Int) (a1_9 : Int) (a1_10 : Int) (a1_11 : Int) (a1_12 : Int) (a1_13 : Int) : Option (Bool) := if a0_0 = a1_0 then (if a0_1 = a1_1 then (if a0_2 = a1_2 then (if a0_3 = a1_3 then (if a0_4 = a1_4 then (if a0_5 = a1_5 then (if a0_6 = a1_6 then ((laws_eqEntryS.f k ([] : List (S90)) ([] : List (S90))).bind fun t269 => (if t269 = true then ((laws_eqAgg.f a0_8 a0_9 a0_10 a0_11 a0_12 a0_13 a1_8 a1_9 a1_10 a1_11 a1_12 a1_13).bind fun t270 => (if t270 = true then (some true) else (some false))) else (some false))) else (some false)) else (some false)) else (some false)) else (some false)) else (some false)) else (some false)) else (some false)
theorem laws_eqReader.mono : ∀ a0 a1 a2 a3 a4 a5 a6 a7 a8 a9 a10 a11 a12 a13 a14 a15 a16 a17 a18 a19 a20 a21 a22 a23 a24 a25 a26 a27 k,LeO (laws_eqReader.f k a0 a1 a2 a3 a4 a5 a6 a7 a8 a9 a10 a11 a12 a13 a14 a15 a16 a17 a18 a19 a20 a21 a22 a23 a24 a25 a26 a27) (laws_eqReader.f (k + 1) a0 a1 a2 a3 a4 a5 a6 a7 a8 a9 a10 a11 a12 a13 a14 a15 a16 a17 a18 a19 a20 a21 a22 a23 a24 a25 a26 a27) := by
 intro a0 a1 a2 a3 a4 a5 a6 a7 a8 a9 a10 a11 a12 a13 a14 a15 a16 a17 a18 a19 a20 a21 a22 a23 a24 a25 a26 a27 k
 unfold laws_eqReader.f
 repeat' first
 | (with_reducible first | exact laws_eqEntryS.mono .. | exact LeO.refl _ | exact LeO.none _ | refine LeO.ite ?_ ?_ | refine LeO.bind ?_ (fun _ => ?_))
 | exact LeO.none _ | refine LeO.ite ?_ ?_ | refine LeO.bind ?_ (fun _ => ?_)
set_option maxHeartbeats 8000000 in
set_option maxRecDepth 100000 in
theorem laws_eqReader.calls (k : Nat) (a0_0 : Int) (a0_1 : Int) (a0_2 : Int) (a0_3 : Int) (a0_4 : Int) (a0_5 : Int) (a0_6 : Int) (A0_7 : Option Addr) (c0_7 : Nat) (a0_7 : Int) (a0_8 : Int) (a0_9 : Int) (a0_10 : Int) (a0_11 : Int) (a0_12 : Int) (a0_13 : Int) (a1_0 : Int) (a1_1 : Int) (a1_2 : Int) (a1_3 : Int) (a1_4 : Int) (a1_5 : Int) (a1_6 : Int) (A1_7 : Option Addr) (c1_7 : Nat) (a1_7 : Int) (a1_8 : Int) (a1_9 : Int) (a1_10 : Int) (a1_11 : Int) (a1_12 : Int) (a1_13 : Int) (r : Bool) (w : World) (h : laws_eqReader.f k a0_0 a0_1 a0_2 a0_3 a0_4 a0_5 a0_6 a0_7 a0_8 a0_9 a0_10 a0_11 a0_12 a0_13 a1_0 a1_1 a1_2 a1_3 a1_4 a1_5 a1_6 a1_7 a1_8 a1_9 a1_10 a1_11 a1_12 a1_13 = some r) :
  Calls Try.prog 37 #[.agg #[.int .i64 a0_0,.int .i64 a0_1,.int .i64 a0_2,.int .i64 a0_3,.int .i64 a0_4,.int .i64 a0_5,.int .i64 a0_6,.slice A0_7 0 c0_7,.int .i64 a0_8,.int .i64 a0_9,.int .i64 a0_10,.int .i64 a0_11,.int .i64 a0_12,.int .i64 a0_13],.agg #[.int .i64 a1_0,.int .i64 a1_1,.int .i64 a1_2,.int .i64 a1_3,.int .i64 a1_4,.int .i64 a1_5,.int .i64 a1_6,.slice A1_7 0 c1_7,.int .i64 a1_8,.int .i64 a1_9,.int .i64 a1_10,.int .i64 a1_11,.int .i64 a1_12,.int .i64 a1_13]] w fun e w' => e = .returned (.bool r) ∧ Below w.heap.size w w' := by
 have hu48 := Try.underlying48
 have hu42 := Try.underlying42
 have HB := Aside0.mk (Below.refl w.heap.size w)
 have H : (if a0_0 = a1_0 then (if a0_1 = a1_1 then (if a0_2 = a1_2 then (if a0_3 = a1_3 then (if a0_4 = a1_4 then (if a0_5 = a1_5 then (if a0_6 = a1_6 then ((laws_eqEntryS.f k ([] : List (S90)) ([] : List (S90))).bind fun t269 => (if t269 = true then ((laws_eqAgg.f a0_8 a0_9 a0_10 a0_11 a0_12 a0_13 a1_8 a1_9 a1_10 a1_11 a1_12 a1_13).bind fun t270 => (if t270 = true then (some true) else (some false))) else (some false))) else (some false)) else (some false)) else (some false)) else (some false)) else (some false)) else (some false)) else (some false)) = some r := h
 clear h
 by_cases c3 : a0_0 = a1_0
 ·rw [if_pos c3] at H
  have c3b0 : (a0_0 == a1_0) = true := beq_iff_eq.mpr c3
  have c3b1 : (a0_0 != a1_0) = false := bne_eq_false_iff_eq.mpr c3
  clear c3
  by_cases c4 : a0_1 = a1_1
  ·rw [if_pos c4] at H
   have c4b0 : (a0_1 == a1_1) = true := beq_iff_eq.mpr c4
   have c4b1 : (a0_1 != a1_1) = false := bne_eq_false_iff_eq.mpr c4
   clear c4
   by_cases c5 : a0_2 = a1_2
   ·rw [if_pos c5] at H
    have c5b0 : (a0_2 == a1_2) = true := beq_iff_eq.mpr c5
    have c5b1 : (a0_2 != a1_2) = false := bne_eq_false_iff_eq.mpr c5
    clear c5
    by_cases c6 : a0_3 = a1_3
    ·rw [if_pos c6] at H
     have c6b0 : (a0_3 == a1_3) = true := beq_iff_eq.mpr c6
     have c6b1 : (a0_3 != a1_3) = false := bne_eq_false_iff_eq.mpr c6
     clear c6
     by_cases c7 : a0_4 = a1_4
     ·rw [if_pos c7] at H
      have c7b0 : (a0_4 == a1_4) = true := beq_iff_eq.mpr c7
      have c7b1 : (a0_4 != a1_4) = false := bne_eq_false_iff_eq.mpr c7
      clear c7
      by_cases c8 : a0_5 = a1_5
      ·rw [if_pos c8] at H
       have c8b0 : (a0_5 == a1_5) = true := beq_iff_eq.mpr c8
       have c8b1 : (a0_5 != a1_5) = false := bne_eq_false_iff_eq.mpr c8
       clear c8
       by_cases c9 : a0_6 = a1_6
       ·rw [if_pos c9] at H
        have c9b0 : (a0_6 == a1_6) = true := beq_iff_eq.mpr c9
        have c9b1 : (a0_6 != a1_6) = false := bne_eq_false_iff_eq.mpr c9
        clear c9
        replace H := Option.bind_eq_some_iff.mp H
        obtain ⟨t269,A100,H⟩ := H
        try dsimp only at H
        have A10 := Aside0.mk A100
        clear A100
        by_cases c11 : t269 = true
        ·subst c11
         rw [if_pos rfl] at H
         replace H := Option.bind_eq_some_iff.mp H
         obtain ⟨t270,A120,H⟩ := H
         try dsimp only at H
         have A12 := Aside0.mk A120
         clear A120
         by_cases c13 : t270 = true
         ·subst c13
          rw [if_pos rfl] at H
          obtain rfl := Option.some.inj H
          go_enter Try.func37,Try.ntmps37
          go_wp2_with (first | ((with_reducible refine gate_dst (N:=2) rfl ?_); refine bxe (N:=2) (cs := #[.int .i64 a0_0,.int .i64 a0_1,.int .i64 a0_2,.int .i64 a0_3,.int .i64 a0_4,.int .i64 a0_5,.int .i64 a0_6,.slice A0_7 0 c0_7,.int .i64 a0_8,.int .i64 a0_9,.int .i64 a0_10,.int .i64 a0_11,.int .i64 a0_12,.int .i64 a0_13]) (t:=48) ?_; intro gb267 hg w14 hbox hb; have BK267 := Aside0.mk (hbox); have GW267 := Aside0.mk ((gw hg : w.heap.size ≤ gb267)); have GE267 := GW267; replace HB := bsA hb; clear hb hbox hg) | ((with_reducible refine gate_dst (N:=3) rfl ?_); refine bxe (N:=3) (cs := #[.int .i64 a1_0,.int .i64 a1_1,.int .i64 a1_2,.int .i64 a1_3,.int .i64 a1_4,.int .i64 a1_5,.int .i64 a1_6,.slice A1_7 0 c1_7,.int .i64 a1_8,.int .i64 a1_9,.int .i64 a1_10,.int .i64 a1_11,.int .i64 a1_12,.int .i64 a1_13]) (t:=48) ?_; intro gb268 hg w15 hbox hb; have BK268 := Aside0.mk (hbox); have GW268 := Aside0.mk ((gw hg : w.heap.size ≤ gb268)); have GE268 := GW268; replace HB := bsA hb; have NB267_268 := Aside0.mk ((nl hg BK267.out)); have NB268_267 := Aside0.mk ((ng hg BK267.out)); replace BK267 := bbA BK267 hb; clear hb hbox hg; have hnb16 := NB267_268.out; have hnc16 := NB268_267.out; obtain ⟨hcz17_0,hcz17_1,hcz17_2,hcz17_3,hcz17_4,hcz17_5,hcz17_6,hcz17_7,hcz17_8,hcz17_9,hcz17_10,hcz17_11,hcz17_12,hcz17_13⟩ := cl14 BK267.out; obtain ⟨hfz17_0,hfz17_1,hfz17_2,hfz17_3,hfz17_4,hfz17_5,hfz17_6,hfz17_7,hfz17_8,hfz17_9,hfz17_10,hfz17_11,hfz17_12,hfz17_13⟩ := fz14 BK267.out; obtain ⟨hcz18_0,hcz18_1,hcz18_2,hcz18_3,hcz18_4,hcz18_5,hcz18_6,hcz18_7,hcz18_8,hcz18_9,hcz18_10,hcz18_11,hcz18_12,hcz18_13⟩ := cl14 BK268.out; obtain ⟨hfz18_0,hfz18_1,hfz18_2,hfz18_3,hfz18_4,hfz18_5,hfz18_6,hfz18_7,hfz18_8,hfz18_9,hfz18_10,hfz18_11,hfz18_12,hfz18_13⟩ := fz14 BK268.out) | ((with_reducible refine gate_callee (f:=48) rfl ?_); refine goesL_ (some 44) rfl rfl Try.func48 (by kernel_rfl) rfl #[.slice A0_7 0 c0_7,.slice A1_7 0 c1_7] rfl mA ?_; (refine (laws_eqEntryS.calls k _ _ ([] : List (S90)) _ _ ([] : List (S90)) true _ ?side1 ?side2 ?side3 ?side4 A10.out).mono ?_); (case side1 => exact kEmp_C _ _ _); (case side2 => exact Nat.zero_le _); (case side3 => exact kEmp_C _ _ _); (case side4 => exact Nat.zero_le _); rintro e w19 ⟨rfl,hb⟩; refine ⟨_,rfl,?_⟩; replace BK267 := bbA BK267 hb; replace BK268 := bbA BK268 hb; replace HB := bsA hb; clear hb; obtain ⟨hcz20_0,hcz20_1,hcz20_2,hcz20_3,hcz20_4,hcz20_5,hcz20_6,hcz20_7,hcz20_8,hcz20_9,hcz20_10,hcz20_11,hcz20_12,hcz20_13⟩ := cl14 BK267.out; obtain ⟨hfz20_0,hfz20_1,hfz20_2,hfz20_3,hfz20_4,hfz20_5,hfz20_6,hfz20_7,hfz20_8,hfz20_9,hfz20_10,hfz20_11,hfz20_12,hfz20_13⟩ := fz14 BK267.out; obtain ⟨hcz21_0,hcz21_1,hcz21_2,hcz21_3,hcz21_4,hcz21_5,hcz21_6,hcz21_7,hcz21_8,hcz21_9,hcz21_10,hcz21_11,hcz21_12,hcz21_13⟩ := cl14 BK268.out; obtain ⟨hfz21_0,hfz21_1,hfz21_2,hfz21_3,hfz21_4,hfz21_5,hfz21_6,hfz21_7,hfz21_8,hfz21_9,hfz21_10,hfz21_11,hfz21_12,hfz21_13⟩ := fz14 BK268.out) | ((with_reducible refine gate_callee (f:=49) rfl ?_); refine goesL_ (some 50) rfl rfl Try.func49 (by kernel_rfl) rfl #[.agg #[.int .i64 a0_8,.int .i64 a0_9,.int .i64 a0_10,.int .i64 a0_11,.int .i64 a0_12,.int .i64 a0_13],.agg #[.int .i64 a1_8,.int .i64 a1_9,.int .i64 a1_10,.int .i64 a1_11,.int .i64 a1_12,.int .i64 a1_13]] rfl mA ?_; (with_reducible refine (laws_eqAgg.calls a0_8 a0_9 a0_10 a0_11 a0_12 a0_13 a1_8 a1_9 a1_10 a1_11 a1_12 a1_13 true _ A12.out).mono ?_); rintro e w22 ⟨rfl,hb⟩; refine ⟨_,rfl,?_⟩; replace BK267 := bbA BK267 hb; replace BK268 := bbA BK268 hb; replace HB := bsA hb; clear hb))
          go_ret
          exact ⟨by first | rfl | (simp [errW_none,errW_some] <;> rfl) | (simp [*,errW_none,errW_some] <;> rfl),bA⟩
         ·replace c13 := Bool.eq_false_iff.mpr c13
          subst c13
          rw [if_neg (show ¬ (false = true) by decide)] at H
          obtain rfl := Option.some.inj H
          go_enter Try.func37,Try.ntmps37
          go_wp2_with (first | ((with_reducible refine gate_dst (N:=2) rfl ?_); refine bxe (N:=2) (cs := #[.int .i64 a0_0,.int .i64 a0_1,.int .i64 a0_2,.int .i64 a0_3,.int .i64 a0_4,.int .i64 a0_5,.int .i64 a0_6,.slice A0_7 0 c0_7,.int .i64 a0_8,.int .i64 a0_9,.int .i64 a0_10,.int .i64 a0_11,.int .i64 a0_12,.int .i64 a0_13]) (t:=48) ?_; intro gb267 hg w23 hbox hb; have BK267 := Aside0.mk (hbox); have GW267 := Aside0.mk ((gw hg : w.heap.size ≤ gb267)); have GE267 := GW267; replace HB := bsA hb; clear hb hbox hg) | ((with_reducible refine gate_dst (N:=3) rfl ?_); refine bxe (N:=3) (cs := #[.int .i64 a1_0,.int .i64 a1_1,.int .i64 a1_2,.int .i64 a1_3,.int .i64 a1_4,.int .i64 a1_5,.int .i64 a1_6,.slice A1_7 0 c1_7,.int .i64 a1_8,.int .i64 a1_9,.int .i64 a1_10,.int .i64 a1_11,.int .i64 a1_12,.int .i64 a1_13]) (t:=48) ?_; intro gb268 hg w24 hbox hb; have BK268 := Aside0.mk (hbox); have GW268 := Aside0.mk ((gw hg : w.heap.size ≤ gb268)); have GE268 := GW268; replace HB := bsA hb; have NB267_268 := Aside0.mk ((nl hg BK267.out)); have NB268_267 := Aside0.mk ((ng hg BK267.out)); replace BK267 := bbA BK267 hb; clear hb hbox hg; have hnb25 := NB267_268.out; have hnc25 := NB268_267.out; obtain ⟨hcz26_0,hcz26_1,hcz26_2,hcz26_3,hcz26_4,hcz26_5,hcz26_6,hcz26_7,hcz26_8,hcz26_9,hcz26_10,hcz26_11,hcz26_12,hcz26_13⟩ := cl14 BK267.out; obtain ⟨hfz26_0,hfz26_1,hfz26_2,hfz26_3,hfz26_4,hfz26_5,hfz26_6,hfz26_7,hfz26_8,hfz26_9,hfz26_10,hfz26_11,hfz26_12,hfz26_13⟩ := fz14 BK267.out; obtain ⟨hcz27_0,hcz27_1,hcz27_2,hcz27_3,hcz27_4,hcz27_5,hcz27_6,hcz27_7,hcz27_8,hcz27_9,hcz27_10,hcz27_11,hcz27_12,hcz27_13⟩ := cl14 BK268.out; obtain ⟨hfz27_0,hfz27_1,hfz27_2,hfz27_3,hfz27_4,hfz27_5,hfz27_6,hfz27_7,hfz27_8,hfz27_9,hfz27_10,hfz27_11,hfz27_12,hfz27_13⟩ := fz14 BK268.out) | ((with_reducible refine gate_callee (f:=48) rfl ?_); refine goesL_ (some 44) rfl rfl Try.func48 (by kernel_rfl) rfl #[.slice A0_7 0 c0_7,.slice A1_7 0 c1_7] rfl mA ?_; (refine (laws_eqEntryS.calls k _ _ ([] : List (S90)) _ _ ([] : List (S90)) true _ ?side1 ?side2 ?side3 ?side4 A10.out).mono ?_); (case side1 => exact kEmp_C _ _ _); (case side2 => exact Nat.zero_le _); (case side3 => exact kEmp_C _ _ _); (case side4 => exact Nat.zero_le _); rintro e w28 ⟨rfl,hb⟩; refine ⟨_,rfl,?_⟩; replace BK267 := bbA BK267 hb; replace BK268 := bbA BK268 hb; replace HB := bsA hb; clear hb; obtain ⟨hcz29_0,hcz29_1,hcz29_2,hcz29_3,hcz29_4,hcz29_5,hcz29_6,hcz29_7,hcz29_8,hcz29_9,hcz29_10,hcz29_11,hcz29_12,hcz29_13⟩ := cl14 BK267.out; obtain ⟨hfz29_0,hfz29_1,hfz29_2,hfz29_3,hfz29_4,hfz29_5,hfz29_6,hfz29_7,hfz29_8,hfz29_9,hfz29_10,hfz29_11,hfz29_12,hfz29_13⟩ := fz14 BK267.out; obtain ⟨hcz30_0,hcz30_1,hcz30_2,hcz30_3,hcz30_4,hcz30_5,hcz30_6,hcz30_7,hcz30_8,hcz30_9,hcz30_10,hcz30_11,hcz30_12,hcz30_13⟩ := cl14 BK268.out; obtain ⟨hfz30_0,hfz30_1,hfz30_2,hfz30_3,hfz30_4,hfz30_5,hfz30_6,hfz30_7,hfz30_8,hfz30_9,hfz30_10,hfz30_11,hfz30_12,hfz30_13⟩ := fz14 BK268.out) | ((with_reducible refine gate_callee (f:=49) rfl ?_); refine goesL_ (some 50) rfl rfl Try.func49 (by kernel_rfl) rfl #[.agg #[.int .i64 a0_8,.int .i64 a0_9,.int .i64 a0_10,.int .i64 a0_11,.int .i64 a0_12,.int .i64 a0_13],.agg #[.int .i64 a1_8,.int .i64 a1_9,.int .i64 a1_10,.int .i64 a1_11,.int .i64 a1_12,.int .i64 a1_13]] rfl mA ?_; (with_reducible refine (laws_eqAgg.calls a0_8 a0_9 a0_10 a0_11 a0_12 a0_13 a1_8 a1_9 a1_10 a1_11 a1_12 a1_13 false _ A12.out).mono ?_); rintro e w31 ⟨rfl,hb⟩; refine ⟨_,rfl,?_⟩; replace BK267 := bbA BK267 hb; replace BK268 := bbA BK268 hb; replace HB := bsA hb; clear hb))
          go_ret
          exact ⟨by first | rfl | (simp [errW_none,errW_some] <;> rfl) | (simp [*,errW_none,errW_some] <;> rfl),bA⟩
        ·replace c11 := Bool.eq_false_iff.mpr c11
         subst c11
         rw [if_neg (show ¬ (false = true) by decide)] at H
         obtain rfl := Option.some.inj H
         go_enter Try.func37,Try.ntmps37
         go_wp2_with (first | ((with_reducible refine gate_dst (N:=2) rfl ?_); refine bxe (N:=2) (cs := #[.int .i64 a0_0,.int .i64 a0_1,.int .i64 a0_2,.int .i64 a0_3,.int .i64 a0_4,.int .i64 a0_5,.int .i64 a0_6,.slice A0_7 0 c0_7,.int .i64 a0_8,.int .i64 a0_9,.int .i64 a0_10,.int .i64 a0_11,.int .i64 a0_12,.int .i64 a0_13]) (t:=48) ?_; intro gb267 hg w32 hbox hb; have BK267 := Aside0.mk (hbox); have GW267 := Aside0.mk ((gw hg : w.heap.size ≤ gb267)); have GE267 := GW267; replace HB := bsA hb; clear hb hbox hg) | ((with_reducible refine gate_dst (N:=3) rfl ?_); refine bxe (N:=3) (cs := #[.int .i64 a1_0,.int .i64 a1_1,.int .i64 a1_2,.int .i64 a1_3,.int .i64 a1_4,.int .i64 a1_5,.int .i64 a1_6,.slice A1_7 0 c1_7,.int .i64 a1_8,.int .i64 a1_9,.int .i64 a1_10,.int .i64 a1_11,.int .i64 a1_12,.int .i64 a1_13]) (t:=48) ?_; intro gb268 hg w33 hbox hb; have BK268 := Aside0.mk (hbox); have GW268 := Aside0.mk ((gw hg : w.heap.size ≤ gb268)); have GE268 := GW268; replace HB := bsA hb; have NB267_268 := Aside0.mk ((nl hg BK267.out)); have NB268_267 := Aside0.mk ((ng hg BK267.out)); replace BK267 := bbA BK267 hb; clear hb hbox hg; have hnb34 := NB267_268.out; have hnc34 := NB268_267.out; obtain ⟨hcz35_0,hcz35_1,hcz35_2,hcz35_3,hcz35_4,hcz35_5,hcz35_6,hcz35_7,hcz35_8,hcz35_9,hcz35_10,hcz35_11,hcz35_12,hcz35_13⟩ := cl14 BK267.out; obtain ⟨hfz35_0,hfz35_1,hfz35_2,hfz35_3,hfz35_4,hfz35_5,hfz35_6,hfz35_7,hfz35_8,hfz35_9,hfz35_10,hfz35_11,hfz35_12,hfz35_13⟩ := fz14 BK267.out; obtain ⟨hcz36_0,hcz36_1,hcz36_2,hcz36_3,hcz36_4,hcz36_5,hcz36_6,hcz36_7,hcz36_8,hcz36_9,hcz36_10,hcz36_11,hcz36_12,hcz36_13⟩ := cl14 BK268.out; obtain ⟨hfz36_0,hfz36_1,hfz36_2,hfz36_3,hfz36_4,hfz36_5,hfz36_6,hfz36_7,hfz36_8,hfz36_9,hfz36_10,hfz36_11,hfz36_12,hfz36_13⟩ := fz14 BK268.out) | ((with_reducible refine gate_callee (f:=48) rfl ?_); refine goesL_ (some 44) rfl rfl Try.func48 (by kernel_rfl) rfl #[.slice A0_7 0 c0_7,.slice A1_7 0 c1_7] rfl mA ?_; (refine (laws_eqEntryS.calls k _ _ ([] : List (S90)) _ _ ([] : List (S90)) false _ ?side1 ?side2 ?side3 ?side4 A10.out).mono ?_); (case side1 => exact kEmp_C _ _ _); (case side2 => exact Nat.zero_le _); (case side3 => exact kEmp_C _ _ _); (case side4 => exact Nat.zero_le _); rintro e w37 ⟨rfl,hb⟩; refine ⟨_,rfl,?_⟩; replace BK267 := bbA BK267 hb; replace BK268 := bbA BK268 hb; replace HB := bsA hb; clear hb))
         go_ret
         exact ⟨by first | rfl | (simp [errW_none,errW_some] <;> rfl) | (simp [*,errW_none,errW_some] <;> rfl),bA⟩
       ·rw [if_neg c9] at H
        have c9b0 : (a0_6 == a1_6) = false := beq_eq_false_iff_ne.mpr c9
        have c9b1 : (a0_6 != a1_6) = true := bne_iff_ne.mpr c9
        obtain rfl := Option.some.inj H
        go_enter Try.func37,Try.ntmps37
        go_wp2
        go_ret
        exact ⟨by first | rfl | (simp [errW_none,errW_some] <;> rfl) | (simp [*,errW_none,errW_some] <;> rfl),bA⟩
      ·rw [if_neg c8] at H
       have c8b0 : (a0_5 == a1_5) = false := beq_eq_false_iff_ne.mpr c8
       have c8b1 : (a0_5 != a1_5) = true := bne_iff_ne.mpr c8
       obtain rfl := Option.some.inj H
       go_enter Try.func37,Try.ntmps37
       go_wp2
       go_ret
       exact ⟨by first | rfl | (simp [errW_none,errW_some] <;> rfl) | (simp [*,errW_none,errW_some] <;> rfl),bA⟩
     ·rw [if_neg c7] at H
      have c7b0 : (a0_4 == a1_4) = false := beq_eq_false_iff_ne.mpr c7
      have c7b1 : (a0_4 != a1_4) = true := bne_iff_ne.mpr c7
      obtain rfl := Option.some.inj H
      go_enter Try.func37,Try.ntmps37
      go_wp2
      go_ret
      exact ⟨by first | rfl | (simp [errW_none,errW_some] <;> rfl) | (simp [*,errW_none,errW_some] <;> rfl),bA⟩
    ·rw [if_neg c6] at H
     have c6b0 : (a0_3 == a1_3) = false := beq_eq_false_iff_ne.mpr c6
     have c6b1 : (a0_3 != a1_3) = true := bne_iff_ne.mpr c6
     obtain rfl := Option.some.inj H
     go_enter Try.func37,Try.ntmps37
     go_wp2
     go_ret
     exact ⟨by first | rfl | (simp [errW_none,errW_some] <;> rfl) | (simp [*,errW_none,errW_some] <;> rfl),bA⟩
   ·rw [if_neg c5] at H
    have c5b0 : (a0_2 == a1_2) = false := beq_eq_false_iff_ne.mpr c5
    have c5b1 : (a0_2 != a1_2) = true := bne_iff_ne.mpr c5
    obtain rfl := Option.some.inj H
    go_enter Try.func37,Try.ntmps37
    go_wp2
    go_ret
    exact ⟨by first | rfl | (simp [errW_none,errW_some] <;> rfl) | (simp [*,errW_none,errW_some] <;> rfl),bA⟩
  ·rw [if_neg c4] at H
   have c4b0 : (a0_1 == a1_1) = false := beq_eq_false_iff_ne.mpr c4
   have c4b1 : (a0_1 != a1_1) = true := bne_iff_ne.mpr c4
   obtain rfl := Option.some.inj H
   go_enter Try.func37,Try.ntmps37
   go_wp2
   go_ret
   exact ⟨by first | rfl | (simp [errW_none,errW_some] <;> rfl) | (simp [*,errW_none,errW_some] <;> rfl),bA⟩
 ·rw [if_neg c3] at H
  have c3b0 : (a0_0 == a1_0) = false := beq_eq_false_iff_ne.mpr c3
  have c3b1 : (a0_0 != a1_0) = true := bne_iff_ne.mpr c3
  obtain rfl := Option.some.inj H
  go_enter Try.func37,Try.ntmps37
  go_wp2
  go_ret
  exact ⟨by first | rfl | (simp [errW_none,errW_some] <;> rfl) | (simp [*,errW_none,errW_some] <;> rfl),bA⟩

end Go.Proofs.Ytmfichcgmofpkaa.XFnExactNewFleet
