-- Printed by this session's own program wip/tools/xprint.py, which widens the kit's print. Not trusted: Lean checks it.
import Derived.Test.YtmfichcgmofpkaaXFnExactNewFleetx0
import Derived.Test.YtmfichcgmofpkaaXFnExactNewFleetx4
namespace Go.Proofs.Ytmfichcgmofpkaa.XFnExactNewFleet
open List (setIfInBounds_toArray set_cons_zero set_cons_succ)
open Go.RowKit Go.Proofs.YtmfichcgmofpkaaW.PrintWords Go.Proofs.YtmfichcgmofpkaaW.PrintLast Go.Proofs.YtmfichcgmofpkaaW.PrintMore
attribute [local go_sem] max2_int min2_int max_two min_two max_three min_three max_four min_four   -- for this text's walks alone
set_option linter.unusedVariables false
set_option linter.unusedSimpArgs false

/-! ### laws_eqSampleS: function 16 -/
def laws_eqSampleS.l0 : Nat → List (S74) → List (S74) → Int → Option (Bool)
 | 0,_,_,_ => none
 | k + 1,x0,x1,x5 => if x5 < (x0.length : Int) then (if 0 ≤ x5 then (if x5 < (x1.length : Int) then ((laws_eqSample.f ((rd_T74 x0 x5).f0) ((rd_T74 x0 x5).f1) ((rd_T74 x1 x5).f0) ((rd_T74 x1 x5).f1)).bind fun t260 => (if t260 = true then (laws_eqSampleS.l0 k x0 x1 (wrap64 (x5 + 1))) else (some false))) else (none)) else (none)) else (some true)
def laws_eqSampleS.f (k : Nat) (l0 : List (S74)) (l1 : List (S74)) : Option (Bool) := if (l0.length : Int) = (l1.length : Int) then (laws_eqSampleS.l0 k l0 l1 0) else (some false)
theorem laws_eqSampleS.mono_l : ∀ k,(∀ y0 y1 y2,LeO (laws_eqSampleS.l0 k y0 y1 y2) (laws_eqSampleS.l0 (k + 1) y0 y1 y2))
 | 0 => fun _ _ _ r h => by simp [laws_eqSampleS.l0] at h
 | k + 1 => by
  have ih0 := laws_eqSampleS.mono_l k
  ·intro y0 y1 y2
   unfold laws_eqSampleS.l0
   repeat' first
   | (with_reducible first | exact ih0 .. | exact LeO.refl _ | exact LeO.none _ | refine LeO.ite ?_ ?_ | refine LeO.bind ?_ (fun _ => ?_))
   | exact LeO.none _ | refine LeO.ite ?_ ?_ | refine LeO.bind ?_ (fun _ => ?_)
theorem laws_eqSampleS.mono : ∀ a0 a1 k,LeO (laws_eqSampleS.f k a0 a1) (laws_eqSampleS.f (k + 1) a0 a1) := by
 intro a0 a1 k
 have ih0 := laws_eqSampleS.mono_l k
 unfold laws_eqSampleS.f
 repeat' first
 | (with_reducible first | exact ih0 .. | exact LeO.refl _ | exact LeO.none _ | refine LeO.ite ?_ ?_ | refine LeO.bind ?_ (fun _ => ?_))
 | exact LeO.none _ | refine LeO.ite ?_ ?_ | refine LeO.bind ?_ (fun _ => ?_)
def laws_eqSampleS.T6 : Bool × List (List Nat × List Nat) := (true,[([],[]),([],[]),([0,1],[0,1]),([2],[2]),([],[]),([],[]),([4,5],[4,5]),([6],[6]),([3,7],[3,7]),([8],[8])])
def laws_eqSampleS.B6 : List Nat := [0,0,3,7,0,0,48,112,255,511]
theorem laws_eqSampleS.tab6 : rtab .any (opsOf Try.f16 6) = laws_eqSampleS.T6 := by kernel_rfl
theorem laws_eqSampleS.bits6 : waitsOk laws_eqSampleS.T6.2 laws_eqSampleS.B6 = true := by kernel_rfl
set_option maxHeartbeats 8000000 in
set_option maxRecDepth 100000 in
theorem laws_eqSampleS.calls (k : Nat) (A0 : Option Addr) (c0 : Nat) (l0 : List (S74)) (A1 : Option Addr) (c1 : Nat) (l1 : List (S74)) (r : Bool) (w : World) (hr0 : Kd.C k74 w A0 l0.length l0) (hc0 : l0.length ≤ c0) (hr1 : Kd.C k74 w A1 l1.length l1) (hc1 : l1.length ≤ c1) (h : laws_eqSampleS.f k l0 l1 = some r) :
  Calls Try.prog 16 #[.slice A0 l0.length c0,.slice A1 l1.length c1] w fun e w' => e = .returned (.bool r) ∧ Below w.heap.size w w' := by
 have hu74 := Try.underlying74
 have HR0 := Aside0.mk hr0
 have HC0 := Aside0.mk hc0
 clear hr0 hc0
 have HR1 := Aside0.mk hr1
 have HC1 := Aside0.mk hc1
 clear hr1 hc1
 have HB := Aside0.mk (Below.refl w.heap.size w)
 have H : (if (l0.length : Int) = (l1.length : Int) then (laws_eqSampleS.l0 k l0 l1 0) else (some false)) = some r := h
 clear h
 by_cases c3 : (l0.length : Int) = (l1.length : Int)
 ·rw [if_pos c3] at H
  have c3b0 : ((l0.length : Int) == (l1.length : Int)) = true := beq_iff_eq.mpr c3
  have c3b1 : ((l0.length : Int) != (l1.length : Int)) = false := bne_eq_false_iff_eq.mpr c3
  have c3b2 : (l0.length == l1.length) = true := by first | simpa using c3 | (simp at c3 ⊢; omega)
  clear c3
  have H' := Aside0.mk H
  clear H
  go_enter Try.func16,Try.ntmps16
  go_wp2
  go_loopg [5] k (fun kq v5 w' => ∃ (x5_1 : Int),v5 = .int .i64 x5_1 ∧ Aside0 (laws_eqSampleS.l0 kq l0 l1 x5_1 = some r) ∧ Aside0 (kq ≤ k) ∧ Aside0 (Below w.heap.size w w'))
  case atStart => exact ⟨(0),(by first | rfl | (simp; done) | (simp [*]; done)),H',⟨Nat.le_refl _⟩,⟨bA⟩⟩
  case round =>
   clear H'
   try clear c1
   try clear p2
   try clear c3
   try clear c3b0
   try clear c3b1
   try clear c3b2
   obtain ⟨x5_1,rfl,HA,HK1,HB⟩ := hrel
   cases gk with
   | zero => exact absurd HA.out (by simp [laws_eqSampleS.l0])
   | succ k1 =>
    have H := HA.out
    clear HA
    simp only [laws_eqSampleS.l0] at H
    by_cases c4 : x5_1 < (l0.length : Int)
    ·rw [if_pos c4] at H
     have c4b0 : decide (x5_1 < (l0.length : Int)) = true := decide_eq_true c4
     clear c4
     by_cases c5 : 0 ≤ x5_1
     ·rw [if_pos c5] at H
      have c5b0 : decide (0 ≤ x5_1) = true := decide_eq_true c5
      clear c5
      by_cases c6 : x5_1 < (l1.length : Int)
      ·rw [if_pos c6] at H
       have c6b0 : decide (x5_1 < (l1.length : Int)) = true := decide_eq_true c6
       clear c6
       replace H := Option.bind_eq_some_iff.mp H
       obtain ⟨t260,A70,H⟩ := H
       try dsimp only at H
       have A7 := Aside0.mk A70
       clear A70
       by_cases c8 : t260 = true
       ·subst c8
        rw [if_pos rfl] at H
        have H' := Aside0.mk H
        clear H
        try go_wp2
        replace HB := Aside0.mk (below_drew1 HB.out)
        have p258 : 0 ≤ (x5_1 : Int) := od
        have q258 : x5_1 < (l0.length : Int) := od
        obtain ⟨ad258,e258,hx258_0,hx258_1⟩ := at_T74 HR0.out x5_1 p258 q258
        have hw258_1 := hx258_1
        have hw258_0 := hx258_0
        cases e258
        replace hx258_0 := cb HB.out hx258_0
        replace hx258_1 := cb HB.out hx258_1
        replace p258 := eq_true p258
        replace q258 := eq_true q258
        have p259 : 0 ≤ (x5_1 : Int) := od
        have q259 : x5_1 < (l1.length : Int) := od
        obtain ⟨ad259,e259,hx259_0,hx259_1⟩ := at_T74 HR1.out x5_1 p259 q259
        have hw259_1 := hx259_1
        have hw259_0 := hx259_0
        cases e259
        replace hx259_0 := cb HB.out hx259_0
        replace hx259_1 := cb HB.out hx259_1
        replace p259 := eq_true p259
        replace q259 := eq_true q259
        refine start_ (n:=10) (S:=fun w' => w'.cell? (ad258.add ((x5_1).toNat * 2)) = some (.int .i64 ((rd_T74 l0 x5_1).f0)) ∧ w'.cell? ⟨(ad258.add ((x5_1).toNat * 2)).block,(ad258.add ((x5_1).toNat * 2)).off + 1,none⟩ = some (.int .i64 ((rd_T74 l0 x5_1).f1)) ∧ w'.cell? (ad259.add ((x5_1).toNat * 2)) = some (.int .i64 ((rd_T74 l1 x5_1).f0)) ∧ w'.cell? ⟨(ad259.add ((x5_1).toNat * 2)).block,(ad259.add ((x5_1).toNat * 2)).off + 1,none⟩ = some (.int .i64 ((rd_T74 l1 x5_1).f1))) (ds := []) (bm 10 0) (by kernel_rfl) rfl rfl ⟨(cb HB.out hw258_0),(cb HB.out hw258_1),(cb HB.out hw259_0),(cb HB.out hw259_1)⟩ (fun hHeld => ?_); refine with_tabW laws_eqSampleS.tab6 laws_eqSampleS.bits6 (fun HT_ HW_ => ?_)
        generalize wr.drew = w9 at HB hx258_0 hx258_1 hx259_0 hx259_1 hHeld ⊢
        refine pV_ 0 17 (bm 10 1) HT_.out ?_
        refine pV_ 1 18 (bm 10 3) HT_.out ?_
        refine pV_ 2 19 (bm 10 7) HT_.out ?_
        refine pV_ 4 21 (bm 10 23) HT_.out ?_
        refine pV_ 5 22 (bm 10 55) HT_.out ?_
        refine pV_ 6 23 (bm 10 119) HT_.out ?_
        refine tk 3 20 (bm 10 127) HT_.out HW_.out hHeld ?_
        refine tk 7 24 (bm 10 255) HT_.out HW_.out hHeld ?_
        refine one_ (i:=8) (N:=some 25) (bm 10 511) rfl rfl (one_of HT_.out (by kernel_rfl)) (by decide) (fun K hK => ?_)
        refine goes_ Try.func38 (by kernel_rfl) rfl #[.agg #[.int .i64 ((rd_T74 l0 x5_1).f0),.int .i64 ((rd_T74 l0 x5_1).f1)],.agg #[.int .i64 ((rd_T74 l1 x5_1).f0),.int .i64 ((rd_T74 l1 x5_1).f1)]] (by rfl) rfl rfl mA ?_
        with_reducible refine (laws_eqSample.calls ((rd_T74 l0 x5_1).f0) ((rd_T74 l0 x5_1).f1) ((rd_T74 l1 x5_1).f0) ((rd_T74 l1 x5_1).f1) true _ A7.out).mono ?_
        rintro e w10 ⟨rfl,hb⟩
        refine ⟨_,rfl,?_⟩
        replace HB := bsA hb
        clear hb
        refine hK.out _ _ ⟨(cb HB.out hw258_0),(cb HB.out hw258_1),(cb HB.out hw259_0),(cb HB.out hw259_1)⟩ (fun hHeld => ?_)
        clear hK K
        refine nw 25 ?_
        refine pV_ 9 26 (bm 10 1023) HT_.out ?_
        refine done_ (done_of HT_.out (by kernel_rfl)) ?_
        try go_wp2
        go_roundg k1
        case measure => have := HK1.out; omega
        case rel => exact ⟨(wrap64 (x5_1 + 1)),(by first | rfl | (simp; done) | (simp [*]; done)),H',⟨by have := HK1.out; omega⟩,⟨bA⟩⟩
       ·replace c8 := Bool.eq_false_iff.mpr c8
        subst c8
        rw [if_neg (show ¬ (false = true) by decide)] at H
        obtain rfl := Option.some.inj H
        try go_wp2
        replace HB := Aside0.mk (below_drew1 HB.out)
        have p258 : 0 ≤ (x5_1 : Int) := od
        have q258 : x5_1 < (l0.length : Int) := od
        obtain ⟨ad258,e258,hx258_0,hx258_1⟩ := at_T74 HR0.out x5_1 p258 q258
        have hw258_1 := hx258_1
        have hw258_0 := hx258_0
        cases e258
        replace hx258_0 := cb HB.out hx258_0
        replace hx258_1 := cb HB.out hx258_1
        replace p258 := eq_true p258
        replace q258 := eq_true q258
        have p259 : 0 ≤ (x5_1 : Int) := od
        have q259 : x5_1 < (l1.length : Int) := od
        obtain ⟨ad259,e259,hx259_0,hx259_1⟩ := at_T74 HR1.out x5_1 p259 q259
        have hw259_1 := hx259_1
        have hw259_0 := hx259_0
        cases e259
        replace hx259_0 := cb HB.out hx259_0
        replace hx259_1 := cb HB.out hx259_1
        replace p259 := eq_true p259
        replace q259 := eq_true q259
        refine start_ (n:=10) (S:=fun w' => w'.cell? (ad258.add ((x5_1).toNat * 2)) = some (.int .i64 ((rd_T74 l0 x5_1).f0)) ∧ w'.cell? ⟨(ad258.add ((x5_1).toNat * 2)).block,(ad258.add ((x5_1).toNat * 2)).off + 1,none⟩ = some (.int .i64 ((rd_T74 l0 x5_1).f1)) ∧ w'.cell? (ad259.add ((x5_1).toNat * 2)) = some (.int .i64 ((rd_T74 l1 x5_1).f0)) ∧ w'.cell? ⟨(ad259.add ((x5_1).toNat * 2)).block,(ad259.add ((x5_1).toNat * 2)).off + 1,none⟩ = some (.int .i64 ((rd_T74 l1 x5_1).f1))) (ds := []) (bm 10 0) (by kernel_rfl) rfl rfl ⟨(cb HB.out hw258_0),(cb HB.out hw258_1),(cb HB.out hw259_0),(cb HB.out hw259_1)⟩ (fun hHeld => ?_); refine with_tabW laws_eqSampleS.tab6 laws_eqSampleS.bits6 (fun HT_ HW_ => ?_)
        generalize wr.drew = w11 at HB hx258_0 hx258_1 hx259_0 hx259_1 hHeld ⊢
        refine pV_ 0 17 (bm 10 1) HT_.out ?_
        refine pV_ 1 18 (bm 10 3) HT_.out ?_
        refine pV_ 2 19 (bm 10 7) HT_.out ?_
        refine pV_ 4 21 (bm 10 23) HT_.out ?_
        refine pV_ 5 22 (bm 10 55) HT_.out ?_
        refine pV_ 6 23 (bm 10 119) HT_.out ?_
        refine tk 3 20 (bm 10 127) HT_.out HW_.out hHeld ?_
        refine tk 7 24 (bm 10 255) HT_.out HW_.out hHeld ?_
        refine one_ (i:=8) (N:=some 25) (bm 10 511) rfl rfl (one_of HT_.out (by kernel_rfl)) (by decide) (fun K hK => ?_)
        refine goes_ Try.func38 (by kernel_rfl) rfl #[.agg #[.int .i64 ((rd_T74 l0 x5_1).f0),.int .i64 ((rd_T74 l0 x5_1).f1)],.agg #[.int .i64 ((rd_T74 l1 x5_1).f0),.int .i64 ((rd_T74 l1 x5_1).f1)]] (by rfl) rfl rfl mA ?_
        with_reducible refine (laws_eqSample.calls ((rd_T74 l0 x5_1).f0) ((rd_T74 l0 x5_1).f1) ((rd_T74 l1 x5_1).f0) ((rd_T74 l1 x5_1).f1) false _ A7.out).mono ?_
        rintro e w12 ⟨rfl,hb⟩
        refine ⟨_,rfl,?_⟩
        replace HB := bsA hb
        clear hb
        refine hK.out _ _ ⟨(cb HB.out hw258_0),(cb HB.out hw258_1),(cb HB.out hw259_0),(cb HB.out hw259_1)⟩ (fun hHeld => ?_)
        clear hK K
        refine nw 25 ?_
        refine pV_ 9 26 (bm 10 1023) HT_.out ?_
        refine done_ (done_of HT_.out (by kernel_rfl)) ?_
        try go_wp2
        go_ret
        exact ⟨by first | rfl | (simp only [i64_w,i32_w] <;> rfl) | (simp [errW_none,errW_some] <;> rfl) | (simp [*,errW_none,errW_some] <;> rfl),bA⟩
      ·rw [if_neg c6] at H
       exact absurd H (by simp)
     ·rw [if_neg c5] at H
      exact absurd H (by simp)
    ·rw [if_neg c4] at H
     have c4b0 : decide (x5_1 < (l0.length : Int)) = false := decide_eq_false c4
     clear c4
     obtain rfl := Option.some.inj H
     go_wp2
     go_ret
     exact ⟨by first | rfl | (simp only [i64_w,i32_w] <;> rfl) | (simp [errW_none,errW_some] <;> rfl) | (simp [*,errW_none,errW_some] <;> rfl),bA⟩
 ·rw [if_neg c3] at H
  have c3b0 : ((l0.length : Int) == (l1.length : Int)) = false := beq_eq_false_iff_ne.mpr c3
  have c3b1 : ((l0.length : Int) != (l1.length : Int)) = true := bne_iff_ne.mpr c3
  have c3b2 : (l0.length == l1.length) = false := by first | simpa using c3 | (simp at c3 ⊢; omega)
  obtain rfl := Option.some.inj H
  go_enter Try.func16,Try.ntmps16
  go_wp2
  go_ret
  exact ⟨by first | rfl | (simp only [i64_w,i32_w] <;> rfl) | (simp [errW_none,errW_some] <;> rfl) | (simp [*,errW_none,errW_some] <;> rfl),bA⟩

/-! ### laws_eqIngester: function 36 -/
def laws_eqIngester.f (k : Nat) (a0_0 : Int) (a0_1 : Int) (a0_2 : Int) (a0_3 : Int) (a0_4 : Int) (a0_5 : Bool) (a1_0 : Int) (a1_1 : Int) (a1_2 : Int) (a1_3 : Int) (a1_4 : Int) (a1_5 : Bool) : Option (Bool) := if a0_0 = a1_0 then (if a0_1 = a1_1 then (if a0_2 = a1_2 then (if a0_3 = a1_3 then ((laws_eqSampleS.f k ([] : List (S74)) ([] : List (S74))).bind fun t263 => (if t263 = true then (if (a0_5 != a1_5) = true then (some false) else (some true)) else (some false))) else (some false)) else (some false)) else (some false)) else (some false)
theorem laws_eqIngester.mono : ∀ a0 a1 a2 a3 a4 a5 a6 a7 a8 a9 a10 a11 k,LeO (laws_eqIngester.f k a0 a1 a2 a3 a4 a5 a6 a7 a8 a9 a10 a11) (laws_eqIngester.f (k + 1) a0 a1 a2 a3 a4 a5 a6 a7 a8 a9 a10 a11) := by
 intro a0 a1 a2 a3 a4 a5 a6 a7 a8 a9 a10 a11 k
 unfold laws_eqIngester.f
 repeat' first
 | (with_reducible first | exact laws_eqSampleS.mono .. | exact LeO.refl _ | exact LeO.none _ | refine LeO.ite ?_ ?_ | refine LeO.bind ?_ (fun _ => ?_))
 | exact LeO.none _ | refine LeO.ite ?_ ?_ | refine LeO.bind ?_ (fun _ => ?_)
set_option maxHeartbeats 8000000 in
set_option maxRecDepth 100000 in
theorem laws_eqIngester.calls (k : Nat) (a0_0 : Int) (a0_1 : Int) (a0_2 : Int) (a0_3 : Int) (A0_4 : Option Addr) (c0_4 : Nat) (a0_4 : Int) (a0_5 : Bool) (a1_0 : Int) (a1_1 : Int) (a1_2 : Int) (a1_3 : Int) (A1_4 : Option Addr) (c1_4 : Nat) (a1_4 : Int) (a1_5 : Bool) (r : Bool) (w : World) (h : laws_eqIngester.f k a0_0 a0_1 a0_2 a0_3 a0_4 a0_5 a1_0 a1_1 a1_2 a1_3 a1_4 a1_5 = some r) :
  Calls Try.prog 36 #[.agg #[.int .i64 a0_0,.int .i64 a0_1,.int .i64 a0_2,.int .i64 a0_3,.slice A0_4 0 c0_4,.bool a0_5],.agg #[.int .i64 a1_0,.int .i64 a1_1,.int .i64 a1_2,.int .i64 a1_3,.slice A1_4 0 c1_4,.bool a1_5]] w fun e w' => e = .returned (.bool r) ∧ Below w.heap.size w w' := by
 have hu46 := Try.underlying46
 have HB := Aside0.mk (Below.refl w.heap.size w)
 have H : (if a0_0 = a1_0 then (if a0_1 = a1_1 then (if a0_2 = a1_2 then (if a0_3 = a1_3 then ((laws_eqSampleS.f k ([] : List (S74)) ([] : List (S74))).bind fun t263 => (if t263 = true then (if (a0_5 != a1_5) = true then (some false) else (some true)) else (some false))) else (some false)) else (some false)) else (some false)) else (some false)) = some r := h
 clear h
 by_cases c3 : a0_0 = a1_0
 ·rw [if_pos c3] at H
  have c3b0 : (a0_0 == a1_0) = true := beq_iff_eq.mpr c3
  have c3b1 : (a0_0 != a1_0) = false := bne_eq_false_iff_eq.mpr c3
  clear c3
  by_cases c4 : a0_1 = a1_1
  ·rw [if_pos c4] at H
   have c4b0 : (a0_1 == a1_1) = true := beq_iff_eq.mpr c4
   have c4b1 : (a0_1 != a1_1) = false := bne_eq_false_iff_eq.mpr c4
   clear c4
   by_cases c5 : a0_2 = a1_2
   ·rw [if_pos c5] at H
    have c5b0 : (a0_2 == a1_2) = true := beq_iff_eq.mpr c5
    have c5b1 : (a0_2 != a1_2) = false := bne_eq_false_iff_eq.mpr c5
    clear c5
    by_cases c6 : a0_3 = a1_3
    ·rw [if_pos c6] at H
     have c6b0 : (a0_3 == a1_3) = true := beq_iff_eq.mpr c6
     have c6b1 : (a0_3 != a1_3) = false := bne_eq_false_iff_eq.mpr c6
     clear c6
     replace H := Option.bind_eq_some_iff.mp H
     obtain ⟨t263,A70,H⟩ := H
     try dsimp only at H
     have A7 := Aside0.mk A70
     clear A70
     by_cases c8 : t263 = true
     ·subst c8
      rw [if_pos rfl] at H
      by_cases c9 : (a0_5 != a1_5) = true
      ·rw [if_pos c9] at H
       have c9b0 : (a0_5 != a1_5) = true := c9
       (try (have c9b1 : decide (a0_5 = a1_5) = false := by simpa using c9))
       (try (have c9b2 : (a0_5 == a1_5) = false := by simpa using c9))
       (try (have c9b3 : ¬ (a0_5 = a1_5) := by simpa using c9))
       clear c9
       obtain rfl := Option.some.inj H
       go_enter Try.func36,Try.ntmps36
       go_wp2_with (first | ((with_reducible refine gate_dst (N:=2) rfl ?_); refine bxe (N:=2) (cs := #[.int .i64 a0_0,.int .i64 a0_1,.int .i64 a0_2,.int .i64 a0_3,.slice A0_4 0 c0_4,.bool a0_5]) (t:=46) ?_; intro gb261 hg w10 hbox hb; have BK261 := Aside0.mk (hbox); have GW261 := Aside0.mk ((gw hg : w.heap.size ≤ gb261)); have GE261 := GW261; replace HB := bsA hb; clear hb hbox hg) | ((with_reducible refine gate_dst (N:=3) rfl ?_); refine bxe (N:=3) (cs := #[.int .i64 a1_0,.int .i64 a1_1,.int .i64 a1_2,.int .i64 a1_3,.slice A1_4 0 c1_4,.bool a1_5]) (t:=46) ?_; intro gb262 hg w11 hbox hb; have BK262 := Aside0.mk (hbox); have GW262 := Aside0.mk ((gw hg : w.heap.size ≤ gb262)); have GE262 := GW262; replace HB := bsA hb; have NB261_262 := Aside0.mk ((nl hg BK261.out)); have NB262_261 := Aside0.mk ((ng hg BK261.out)); replace BK261 := bbA BK261 hb; clear hb hbox hg; have hnb12 := NB261_262.out; have hnc12 := NB262_261.out; obtain ⟨hcz13_0,hcz13_1,hcz13_2,hcz13_3,hcz13_4,hcz13_5⟩ := cl6 BK261.out; obtain ⟨hfz13_0,hfz13_1,hfz13_2,hfz13_3,hfz13_4,hfz13_5⟩ := fz6 BK261.out; obtain ⟨hcz14_0,hcz14_1,hcz14_2,hcz14_3,hcz14_4,hcz14_5⟩ := cl6 BK262.out; obtain ⟨hfz14_0,hfz14_1,hfz14_2,hfz14_3,hfz14_4,hfz14_5⟩ := fz6 BK262.out) | ((with_reducible refine gate_callee (f:=16) rfl ?_); refine goesL_ (some 29) rfl rfl Try.func16 (by kernel_rfl) rfl #[.slice A0_4 0 c0_4,.slice A1_4 0 c1_4] rfl mA ?_; (refine (laws_eqSampleS.calls k _ _ ([] : List (S74)) _ _ ([] : List (S74)) true _ ?side1 ?side2 ?side3 ?side4 A7.out).mono ?_); (case side1 => exact kEmp_C _ _ _); (case side2 => exact Nat.zero_le _); (case side3 => exact kEmp_C _ _ _); (case side4 => exact Nat.zero_le _); rintro e w15 ⟨rfl,hb⟩; refine ⟨_,rfl,?_⟩; replace BK261 := bbA BK261 hb; replace BK262 := bbA BK262 hb; replace HB := bsA hb; clear hb; obtain ⟨hcz16_0,hcz16_1,hcz16_2,hcz16_3,hcz16_4,hcz16_5⟩ := cl6 BK261.out; obtain ⟨hfz16_0,hfz16_1,hfz16_2,hfz16_3,hfz16_4,hfz16_5⟩ := fz6 BK261.out; obtain ⟨hcz17_0,hcz17_1,hcz17_2,hcz17_3,hcz17_4,hcz17_5⟩ := cl6 BK262.out; obtain ⟨hfz17_0,hfz17_1,hfz17_2,hfz17_3,hfz17_4,hfz17_5⟩ := fz6 BK262.out))
       go_ret
       exact ⟨by first | rfl | (simp [errW_none,errW_some] <;> rfl) | (simp [*,errW_none,errW_some] <;> rfl),bA⟩
      ·rw [if_neg c9] at H
       have c9b0 : (a0_5 != a1_5) = false := by simpa using c9
       (try (have c9b1 : decide (a0_5 = a1_5) = true := by simpa using c9))
       (try (have c9b2 : (a0_5 == a1_5) = true := by simpa using c9))
       clear c9
       obtain rfl := Option.some.inj H
       go_enter Try.func36,Try.ntmps36
       go_wp2_with (first | ((with_reducible refine gate_dst (N:=2) rfl ?_); refine bxe (N:=2) (cs := #[.int .i64 a0_0,.int .i64 a0_1,.int .i64 a0_2,.int .i64 a0_3,.slice A0_4 0 c0_4,.bool a0_5]) (t:=46) ?_; intro gb261 hg w18 hbox hb; have BK261 := Aside0.mk (hbox); have GW261 := Aside0.mk ((gw hg : w.heap.size ≤ gb261)); have GE261 := GW261; replace HB := bsA hb; clear hb hbox hg) | ((with_reducible refine gate_dst (N:=3) rfl ?_); refine bxe (N:=3) (cs := #[.int .i64 a1_0,.int .i64 a1_1,.int .i64 a1_2,.int .i64 a1_3,.slice A1_4 0 c1_4,.bool a1_5]) (t:=46) ?_; intro gb262 hg w19 hbox hb; have BK262 := Aside0.mk (hbox); have GW262 := Aside0.mk ((gw hg : w.heap.size ≤ gb262)); have GE262 := GW262; replace HB := bsA hb; have NB261_262 := Aside0.mk ((nl hg BK261.out)); have NB262_261 := Aside0.mk ((ng hg BK261.out)); replace BK261 := bbA BK261 hb; clear hb hbox hg; have hnb20 := NB261_262.out; have hnc20 := NB262_261.out; obtain ⟨hcz21_0,hcz21_1,hcz21_2,hcz21_3,hcz21_4,hcz21_5⟩ := cl6 BK261.out; obtain ⟨hfz21_0,hfz21_1,hfz21_2,hfz21_3,hfz21_4,hfz21_5⟩ := fz6 BK261.out; obtain ⟨hcz22_0,hcz22_1,hcz22_2,hcz22_3,hcz22_4,hcz22_5⟩ := cl6 BK262.out; obtain ⟨hfz22_0,hfz22_1,hfz22_2,hfz22_3,hfz22_4,hfz22_5⟩ := fz6 BK262.out) | ((with_reducible refine gate_callee (f:=16) rfl ?_); refine goesL_ (some 29) rfl rfl Try.func16 (by kernel_rfl) rfl #[.slice A0_4 0 c0_4,.slice A1_4 0 c1_4] rfl mA ?_; (refine (laws_eqSampleS.calls k _ _ ([] : List (S74)) _ _ ([] : List (S74)) true _ ?side1 ?side2 ?side3 ?side4 A7.out).mono ?_); (case side1 => exact kEmp_C _ _ _); (case side2 => exact Nat.zero_le _); (case side3 => exact kEmp_C _ _ _); (case side4 => exact Nat.zero_le _); rintro e w23 ⟨rfl,hb⟩; refine ⟨_,rfl,?_⟩; replace BK261 := bbA BK261 hb; replace BK262 := bbA BK262 hb; replace HB := bsA hb; clear hb; obtain ⟨hcz24_0,hcz24_1,hcz24_2,hcz24_3,hcz24_4,hcz24_5⟩ := cl6 BK261.out; obtain ⟨hfz24_0,hfz24_1,hfz24_2,hfz24_3,hfz24_4,hfz24_5⟩ := fz6 BK261.out; obtain ⟨hcz25_0,hcz25_1,hcz25_2,hcz25_3,hcz25_4,hcz25_5⟩ := cl6 BK262.out; obtain ⟨hfz25_0,hfz25_1,hfz25_2,hfz25_3,hfz25_4,hfz25_5⟩ := fz6 BK262.out))
       go_ret
       exact ⟨by first | rfl | (simp [errW_none,errW_some] <;> rfl) | (simp [*,errW_none,errW_some] <;> rfl),bA⟩
     ·replace c8 := Bool.eq_false_iff.mpr c8
      subst c8
      rw [if_neg (show ¬ (false = true) by decide)] at H
      obtain rfl := Option.some.inj H
      go_enter Try.func36,Try.ntmps36
      go_wp2_with (first | ((with_reducible refine gate_dst (N:=2) rfl ?_); refine bxe (N:=2) (cs := #[.int .i64 a0_0,.int .i64 a0_1,.int .i64 a0_2,.int .i64 a0_3,.slice A0_4 0 c0_4,.bool a0_5]) (t:=46) ?_; intro gb261 hg w26 hbox hb; have BK261 := Aside0.mk (hbox); have GW261 := Aside0.mk ((gw hg : w.heap.size ≤ gb261)); have GE261 := GW261; replace HB := bsA hb; clear hb hbox hg) | ((with_reducible refine gate_dst (N:=3) rfl ?_); refine bxe (N:=3) (cs := #[.int .i64 a1_0,.int .i64 a1_1,.int .i64 a1_2,.int .i64 a1_3,.slice A1_4 0 c1_4,.bool a1_5]) (t:=46) ?_; intro gb262 hg w27 hbox hb; have BK262 := Aside0.mk (hbox); have GW262 := Aside0.mk ((gw hg : w.heap.size ≤ gb262)); have GE262 := GW262; replace HB := bsA hb; have NB261_262 := Aside0.mk ((nl hg BK261.out)); have NB262_261 := Aside0.mk ((ng hg BK261.out)); replace BK261 := bbA BK261 hb; clear hb hbox hg; have hnb28 := NB261_262.out; have hnc28 := NB262_261.out; obtain ⟨hcz29_0,hcz29_1,hcz29_2,hcz29_3,hcz29_4,hcz29_5⟩ := cl6 BK261.out; obtain ⟨hfz29_0,hfz29_1,hfz29_2,hfz29_3,hfz29_4,hfz29_5⟩ := fz6 BK261.out; obtain ⟨hcz30_0,hcz30_1,hcz30_2,hcz30_3,hcz30_4,hcz30_5⟩ := cl6 BK262.out; obtain ⟨hfz30_0,hfz30_1,hfz30_2,hfz30_3,hfz30_4,hfz30_5⟩ := fz6 BK262.out) | ((with_reducible refine gate_callee (f:=16) rfl ?_); refine goesL_ (some 29) rfl rfl Try.func16 (by kernel_rfl) rfl #[.slice A0_4 0 c0_4,.slice A1_4 0 c1_4] rfl mA ?_; (refine (laws_eqSampleS.calls k _ _ ([] : List (S74)) _ _ ([] : List (S74)) false _ ?side1 ?side2 ?side3 ?side4 A7.out).mono ?_); (case side1 => exact kEmp_C _ _ _); (case side2 => exact Nat.zero_le _); (case side3 => exact kEmp_C _ _ _); (case side4 => exact Nat.zero_le _); rintro e w31 ⟨rfl,hb⟩; refine ⟨_,rfl,?_⟩; replace BK261 := bbA BK261 hb; replace BK262 := bbA BK262 hb; replace HB := bsA hb; clear hb))
      go_ret
      exact ⟨by first | rfl | (simp [errW_none,errW_some] <;> rfl) | (simp [*,errW_none,errW_some] <;> rfl),bA⟩
    ·rw [if_neg c6] at H
     have c6b0 : (a0_3 == a1_3) = false := beq_eq_false_iff_ne.mpr c6
     have c6b1 : (a0_3 != a1_3) = true := bne_iff_ne.mpr c6
     obtain rfl := Option.some.inj H
     go_enter Try.func36,Try.ntmps36
     go_wp2
     go_ret
     exact ⟨by first | rfl | (simp [errW_none,errW_some] <;> rfl) | (simp [*,errW_none,errW_some] <;> rfl),bA⟩
   ·rw [if_neg c5] at H
    have c5b0 : (a0_2 == a1_2) = false := beq_eq_false_iff_ne.mpr c5
    have c5b1 : (a0_2 != a1_2) = true := bne_iff_ne.mpr c5
    obtain rfl := Option.some.inj H
    go_enter Try.func36,Try.ntmps36
    go_wp2
    go_ret
    exact ⟨by first | rfl | (simp [errW_none,errW_some] <;> rfl) | (simp [*,errW_none,errW_some] <;> rfl),bA⟩
  ·rw [if_neg c4] at H
   have c4b0 : (a0_1 == a1_1) = false := beq_eq_false_iff_ne.mpr c4
   have c4b1 : (a0_1 != a1_1) = true := bne_iff_ne.mpr c4
   obtain rfl := Option.some.inj H
   go_enter Try.func36,Try.ntmps36
   go_wp2
   go_ret
   exact ⟨by first | rfl | (simp [errW_none,errW_some] <;> rfl) | (simp [*,errW_none,errW_some] <;> rfl),bA⟩
 ·rw [if_neg c3] at H
  have c3b0 : (a0_0 == a1_0) = false := beq_eq_false_iff_ne.mpr c3
  have c3b1 : (a0_0 != a1_0) = true := bne_iff_ne.mpr c3
  obtain rfl := Option.some.inj H
  go_enter Try.func36,Try.ntmps36
  go_wp2
  go_ret
  exact ⟨by first | rfl | (simp [errW_none,errW_some] <;> rfl) | (simp [*,errW_none,errW_some] <;> rfl),bA⟩

end Go.Proofs.Ytmfichcgmofpkaa.XFnExactNewFleet
