-- Printed by this session's own program wip/tools/xprint.py, which widens the kit's print. Not trusted: Lean checks it.
import Derived.Test.YtmfichcgmofpkaaXFnExactNewFleetx0
import Derived.Test.YtmfichcgmofpkaaXFnExactNewFleetx1
namespace Go.Proofs.Ytmfichcgmofpkaa.XFnExactNewFleet
open List (setIfInBounds_toArray set_cons_zero set_cons_succ)
open Go.RowKit Go.Proofs.YtmfichcgmofpkaaW.PrintWords Go.Proofs.YtmfichcgmofpkaaW.PrintLast Go.Proofs.YtmfichcgmofpkaaW.PrintMore
attribute [local go_sem] max2_int min2_int max_two min_two max_three min_three max_four min_four   -- for this text's walks alone
set_option linter.unusedVariables false
set_option linter.unusedSimpArgs false

/-! ### laws_eqObjectS: function 34 -/
def laws_eqObjectS.l0 : Nat → List (S84) → List (S84) → Int → Option (Bool)
 | 0,_,_,_ => none
 | k + 1,x0,x1,x5 => if x5 < (x0.length : Int) then (if 0 ≤ x5 then (if x5 < (x1.length : Int) then ((laws_eqObject.f ((rd_T84 x0 x5).f0) ((rd_T84 x0 x5).f1) ((rd_T84 x0 x5).f2) ((rd_T84 x1 x5).f0) ((rd_T84 x1 x5).f1) ((rd_T84 x1 x5).f2)).bind fun t233 => (if t233 = true then (laws_eqObjectS.l0 k x0 x1 (wrap64 (x5 + 1))) else (some false))) else (none)) else (none)) else (some true)
def laws_eqObjectS.f (k : Nat) (l0 : List (S84)) (l1 : List (S84)) : Option (Bool) := if (l0.length : Int) = (l1.length : Int) then (laws_eqObjectS.l0 k l0 l1 0) else (some false)
theorem laws_eqObjectS.mono_l : ∀ k,(∀ y0 y1 y2,LeO (laws_eqObjectS.l0 k y0 y1 y2) (laws_eqObjectS.l0 (k + 1) y0 y1 y2))
 | 0 => fun _ _ _ r h => by simp [laws_eqObjectS.l0] at h
 | k + 1 => by
  have ih0 := laws_eqObjectS.mono_l k
  ·intro y0 y1 y2
   unfold laws_eqObjectS.l0
   repeat' first
   | (with_reducible first | exact ih0 .. | exact LeO.refl _ | exact LeO.none _ | refine LeO.ite ?_ ?_ | refine LeO.bind ?_ (fun _ => ?_))
   | exact LeO.none _ | refine LeO.ite ?_ ?_ | refine LeO.bind ?_ (fun _ => ?_)
theorem laws_eqObjectS.mono : ∀ a0 a1 k,LeO (laws_eqObjectS.f k a0 a1) (laws_eqObjectS.f (k + 1) a0 a1) := by
 intro a0 a1 k
 have ih0 := laws_eqObjectS.mono_l k
 unfold laws_eqObjectS.f
 repeat' first
 | (with_reducible first | exact ih0 .. | exact LeO.refl _ | exact LeO.none _ | refine LeO.ite ?_ ?_ | refine LeO.bind ?_ (fun _ => ?_))
 | exact LeO.none _ | refine LeO.ite ?_ ?_ | refine LeO.bind ?_ (fun _ => ?_)
def laws_eqObjectS.T6 : Bool × List (List Nat × List Nat) := (true,[([],[]),([],[]),([0,1],[0,1]),([2],[2]),([],[]),([],[]),([4,5],[4,5]),([6],[6]),([3,7],[3,7]),([8],[8])])
def laws_eqObjectS.B6 : List Nat := [0,0,3,7,0,0,48,112,255,511]
theorem laws_eqObjectS.tab6 : rtab .any (opsOf Try.f34 6) = laws_eqObjectS.T6 := by kernel_rfl
theorem laws_eqObjectS.bits6 : waitsOk laws_eqObjectS.T6.2 laws_eqObjectS.B6 = true := by kernel_rfl
set_option maxHeartbeats 8000000 in
set_option maxRecDepth 100000 in
theorem laws_eqObjectS.calls (k : Nat) (A0 : Option Addr) (c0 : Nat) (l0 : List (S84)) (A1 : Option Addr) (c1 : Nat) (l1 : List (S84)) (r : Bool) (w : World) (hr0 : Kd.C k84 w A0 l0.length l0) (hc0 : l0.length ≤ c0) (hr1 : Kd.C k84 w A1 l1.length l1) (hc1 : l1.length ≤ c1) (h : laws_eqObjectS.f k l0 l1 = some r) :
  Calls Try.prog 34 #[.slice A0 l0.length c0,.slice A1 l1.length c1] w fun e w' => e = .returned (.bool r) ∧ Below w.heap.size w w' := by
 have hu84 := Try.underlying84
 have HR0 := Aside0.mk hr0
 have HC0 := Aside0.mk hc0
 clear hr0 hc0
 have HR1 := Aside0.mk hr1
 have HC1 := Aside0.mk hc1
 clear hr1 hc1
 have HB := Aside0.mk (Below.refl w.heap.size w)
 have H : (if (l0.length : Int) = (l1.length : Int) then (laws_eqObjectS.l0 k l0 l1 0) else (some false)) = some r := h
 clear h
 by_cases c3 : (l0.length : Int) = (l1.length : Int)
 ·rw [if_pos c3] at H
  have c3b0 : ((l0.length : Int) == (l1.length : Int)) = true := beq_iff_eq.mpr c3
  have c3b1 : ((l0.length : Int) != (l1.length : Int)) = false := bne_eq_false_iff_eq.mpr c3
  have c3b2 : (l0.length == l1.length) = true := by first | simpa using c3 | (simp at c3 ⊢; omega)
  clear c3
  have H' := Aside0.mk H
  clear H
  go_enter Try.func34,Try.ntmps34
  go_wp2
  go_loopg [5] k (fun kq v5 w' => ∃ (x5_1 : Int),v5 = .int .i64 x5_1 ∧ Aside0 (laws_eqObjectS.l0 kq l0 l1 x5_1 = some r) ∧ Aside0 (kq ≤ k) ∧ Aside0 (Below w.heap.size w w'))
  case atStart => exact ⟨(0),(by first | rfl | (simp; done) | (simp [*]; done)),H',⟨Nat.le_refl _⟩,⟨bA⟩⟩
  case round =>
   clear H'
   try clear c1
   try clear p2
   try clear c3
   try clear c3b0
   try clear c3b1
   try clear c3b2
   obtain ⟨x5_1,rfl,HA,HK1,HB⟩ := hrel
   cases gk with
   | zero => exact absurd HA.out (by simp [laws_eqObjectS.l0])
   | succ k1 =>
    have H := HA.out
    clear HA
    simp only [laws_eqObjectS.l0] at H
    by_cases c4 : x5_1 < (l0.length : Int)
    ·rw [if_pos c4] at H
     have c4b0 : decide (x5_1 < (l0.length : Int)) = true := decide_eq_true c4
     clear c4
     by_cases c5 : 0 ≤ x5_1
     ·rw [if_pos c5] at H
      have c5b0 : decide (0 ≤ x5_1) = true := decide_eq_true c5
      clear c5
      by_cases c6 : x5_1 < (l1.length : Int)
      ·rw [if_pos c6] at H
       have c6b0 : decide (x5_1 < (l1.length : Int)) = true := decide_eq_true c6
       clear c6
       replace H := Option.bind_eq_some_iff.mp H
       obtain ⟨t233,A70,H⟩ := H
       try dsimp only at H
       have A7 := Aside0.mk A70
       clear A70
       by_cases c8 : t233 = true
       ·subst c8
        rw [if_pos rfl] at H
        have H' := Aside0.mk H
        clear H
        try go_wp2
        replace HB := Aside0.mk (below_drew1 HB.out)
        have p231 : 0 ≤ (x5_1 : Int) := od
        have q231 : x5_1 < (l0.length : Int) := od
        obtain ⟨ad231,e231,hx231_0,hx231_1,hx231_2⟩ := at_T84 HR0.out x5_1 p231 q231
        have hw231_2 := hx231_2
        have hw231_1 := hx231_1
        have hw231_0 := hx231_0
        cases e231
        replace hx231_0 := cb HB.out hx231_0
        replace hx231_1 := cb HB.out hx231_1
        replace hx231_2 := cb HB.out hx231_2
        replace p231 := eq_true p231
        replace q231 := eq_true q231
        have p232 : 0 ≤ (x5_1 : Int) := od
        have q232 : x5_1 < (l1.length : Int) := od
        obtain ⟨ad232,e232,hx232_0,hx232_1,hx232_2⟩ := at_T84 HR1.out x5_1 p232 q232
        have hw232_2 := hx232_2
        have hw232_1 := hx232_1
        have hw232_0 := hx232_0
        cases e232
        replace hx232_0 := cb HB.out hx232_0
        replace hx232_1 := cb HB.out hx232_1
        replace hx232_2 := cb HB.out hx232_2
        replace p232 := eq_true p232
        replace q232 := eq_true q232
        refine start_ (n:=10) (S:=fun w' => w'.cell? (ad231.add ((x5_1).toNat * 3)) = some (.string ((rd_T84 l0 x5_1).f0)) ∧ w'.cell? ⟨(ad231.add ((x5_1).toNat * 3)).block,(ad231.add ((x5_1).toNat * 3)).off + 1,none⟩ = some (.int .i64 ((rd_T84 l0 x5_1).f1)) ∧ w'.cell? ⟨(ad231.add ((x5_1).toNat * 3)).block,(ad231.add ((x5_1).toNat * 3)).off + 2,none⟩ = some (.string ((rd_T84 l0 x5_1).f2)) ∧ w'.cell? (ad232.add ((x5_1).toNat * 3)) = some (.string ((rd_T84 l1 x5_1).f0)) ∧ w'.cell? ⟨(ad232.add ((x5_1).toNat * 3)).block,(ad232.add ((x5_1).toNat * 3)).off + 1,none⟩ = some (.int .i64 ((rd_T84 l1 x5_1).f1)) ∧ w'.cell? ⟨(ad232.add ((x5_1).toNat * 3)).block,(ad232.add ((x5_1).toNat * 3)).off + 2,none⟩ = some (.string ((rd_T84 l1 x5_1).f2))) (ds := []) (bm 10 0) (by kernel_rfl) rfl rfl ⟨(cb HB.out hw231_0),(cb HB.out hw231_1),(cb HB.out hw231_2),(cb HB.out hw232_0),(cb HB.out hw232_1),(cb HB.out hw232_2)⟩ (fun hHeld => ?_); refine with_tabW laws_eqObjectS.tab6 laws_eqObjectS.bits6 (fun HT_ HW_ => ?_)
        generalize wr.drew = w9 at HB hx231_0 hx231_1 hx231_2 hx232_0 hx232_1 hx232_2 hHeld ⊢
        refine pV_ 0 17 (bm 10 1) HT_.out ?_
        refine pV_ 1 18 (bm 10 3) HT_.out ?_
        refine pV_ 2 19 (bm 10 7) HT_.out ?_
        refine pV_ 4 21 (bm 10 23) HT_.out ?_
        refine pV_ 5 22 (bm 10 55) HT_.out ?_
        refine pV_ 6 23 (bm 10 119) HT_.out ?_
        refine tk 3 20 (bm 10 127) HT_.out HW_.out hHeld ?_
        refine tk 7 24 (bm 10 255) HT_.out HW_.out hHeld ?_
        refine one_ (i:=8) (N:=some 25) (bm 10 511) rfl rfl (one_of HT_.out (by kernel_rfl)) (by decide) (fun K hK => ?_)
        refine goes_ Try.func46 (by kernel_rfl) rfl #[.agg #[.string ((rd_T84 l0 x5_1).f0),.int .i64 ((rd_T84 l0 x5_1).f1),.string ((rd_T84 l0 x5_1).f2)],.agg #[.string ((rd_T84 l1 x5_1).f0),.int .i64 ((rd_T84 l1 x5_1).f1),.string ((rd_T84 l1 x5_1).f2)]] (by rfl) rfl rfl mA ?_
        with_reducible refine (laws_eqObject.calls ((rd_T84 l0 x5_1).f0) ((rd_T84 l0 x5_1).f1) ((rd_T84 l0 x5_1).f2) ((rd_T84 l1 x5_1).f0) ((rd_T84 l1 x5_1).f1) ((rd_T84 l1 x5_1).f2) true _ A7.out).mono ?_
        rintro e w10 ⟨rfl,hb⟩
        refine ⟨_,rfl,?_⟩
        replace HB := bsA hb
        clear hb
        refine hK.out _ _ ⟨(cb HB.out hw231_0),(cb HB.out hw231_1),(cb HB.out hw231_2),(cb HB.out hw232_0),(cb HB.out hw232_1),(cb HB.out hw232_2)⟩ (fun hHeld => ?_)
        clear hK K
        refine nw 25 ?_
        refine pV_ 9 26 (bm 10 1023) HT_.out ?_
        refine done_ (done_of HT_.out (by kernel_rfl)) ?_
        try go_wp2
        go_roundg k1
        case measure => have := HK1.out; omega
        case rel => exact ⟨(wrap64 (x5_1 + 1)),(by first | rfl | (simp; done) | (simp [*]; done)),H',⟨by have := HK1.out; omega⟩,⟨bA⟩⟩
       ·replace c8 := Bool.eq_false_iff.mpr c8
        subst c8
        rw [if_neg (show ¬ (false = true) by decide)] at H
        obtain rfl := Option.some.inj H
        try go_wp2
        replace HB := Aside0.mk (below_drew1 HB.out)
        have p231 : 0 ≤ (x5_1 : Int) := od
        have q231 : x5_1 < (l0.length : Int) := od
        obtain ⟨ad231,e231,hx231_0,hx231_1,hx231_2⟩ := at_T84 HR0.out x5_1 p231 q231
        have hw231_2 := hx231_2
        have hw231_1 := hx231_1
        have hw231_0 := hx231_0
        cases e231
        replace hx231_0 := cb HB.out hx231_0
        replace hx231_1 := cb HB.out hx231_1
        replace hx231_2 := cb HB.out hx231_2
        replace p231 := eq_true p231
        replace q231 := eq_true q231
        have p232 : 0 ≤ (x5_1 : Int) := od
        have q232 : x5_1 < (l1.length : Int) := od
        obtain ⟨ad232,e232,hx232_0,hx232_1,hx232_2⟩ := at_T84 HR1.out x5_1 p232 q232
        have hw232_2 := hx232_2
        have hw232_1 := hx232_1
        have hw232_0 := hx232_0
        cases e232
        replace hx232_0 := cb HB.out hx232_0
        replace hx232_1 := cb HB.out hx232_1
        replace hx232_2 := cb HB.out hx232_2
        replace p232 := eq_true p232
        replace q232 := eq_true q232
        refine start_ (n:=10) (S:=fun w' => w'.cell? (ad231.add ((x5_1).toNat * 3)) = some (.string ((rd_T84 l0 x5_1).f0)) ∧ w'.cell? ⟨(ad231.add ((x5_1).toNat * 3)).block,(ad231.add ((x5_1).toNat * 3)).off + 1,none⟩ = some (.int .i64 ((rd_T84 l0 x5_1).f1)) ∧ w'.cell? ⟨(ad231.add ((x5_1).toNat * 3)).block,(ad231.add ((x5_1).toNat * 3)).off + 2,none⟩ = some (.string ((rd_T84 l0 x5_1).f2)) ∧ w'.cell? (ad232.add ((x5_1).toNat * 3)) = some (.string ((rd_T84 l1 x5_1).f0)) ∧ w'.cell? ⟨(ad232.add ((x5_1).toNat * 3)).block,(ad232.add ((x5_1).toNat * 3)).off + 1,none⟩ = some (.int .i64 ((rd_T84 l1 x5_1).f1)) ∧ w'.cell? ⟨(ad232.add ((x5_1).toNat * 3)).block,(ad232.add ((x5_1).toNat * 3)).off + 2,none⟩ = some (.string ((rd_T84 l1 x5_1).f2))) (ds := []) (bm 10 0) (by kernel_rfl) rfl rfl ⟨(cb HB.out hw231_0),(cb HB.out hw231_1),(cb HB.out hw231_2),(cb HB.out hw232_0),(cb HB.out hw232_1),(cb HB.out hw232_2)⟩ (fun hHeld => ?_); refine with_tabW laws_eqObjectS.tab6 laws_eqObjectS.bits6 (fun HT_ HW_ => ?_)
        generalize wr.drew = w11 at HB hx231_0 hx231_1 hx231_2 hx232_0 hx232_1 hx232_2 hHeld ⊢
        refine pV_ 0 17 (bm 10 1) HT_.out ?_
        refine pV_ 1 18 (bm 10 3) HT_.out ?_
        refine pV_ 2 19 (bm 10 7) HT_.out ?_
        refine pV_ 4 21 (bm 10 23) HT_.out ?_
        refine pV_ 5 22 (bm 10 55) HT_.out ?_
        refine pV_ 6 23 (bm 10 119) HT_.out ?_
        refine tk 3 20 (bm 10 127) HT_.out HW_.out hHeld ?_
        refine tk 7 24 (bm 10 255) HT_.out HW_.out hHeld ?_
        refine one_ (i:=8) (N:=some 25) (bm 10 511) rfl rfl (one_of HT_.out (by kernel_rfl)) (by decide) (fun K hK => ?_)
        refine goes_ Try.func46 (by kernel_rfl) rfl #[.agg #[.string ((rd_T84 l0 x5_1).f0),.int .i64 ((rd_T84 l0 x5_1).f1),.string ((rd_T84 l0 x5_1).f2)],.agg #[.string ((rd_T84 l1 x5_1).f0),.int .i64 ((rd_T84 l1 x5_1).f1),.string ((rd_T84 l1 x5_1).f2)]] (by rfl) rfl rfl mA ?_
        with_reducible refine (laws_eqObject.calls ((rd_T84 l0 x5_1).f0) ((rd_T84 l0 x5_1).f1) ((rd_T84 l0 x5_1).f2) ((rd_T84 l1 x5_1).f0) ((rd_T84 l1 x5_1).f1) ((rd_T84 l1 x5_1).f2) false _ A7.out).mono ?_
        rintro e w12 ⟨rfl,hb⟩
        refine ⟨_,rfl,?_⟩
        replace HB := bsA hb
        clear hb
        refine hK.out _ _ ⟨(cb HB.out hw231_0),(cb HB.out hw231_1),(cb HB.out hw231_2),(cb HB.out hw232_0),(cb HB.out hw232_1),(cb HB.out hw232_2)⟩ (fun hHeld => ?_)
        clear hK K
        refine nw 25 ?_
        refine pV_ 9 26 (bm 10 1023) HT_.out ?_
        refine done_ (done_of HT_.out (by kernel_rfl)) ?_
        try go_wp2
        go_ret
        exact ⟨by first | rfl | (simp only [i64_w,i32_w] <;> rfl) | (simp [errW_none,errW_some] <;> rfl) | (simp [*,errW_none,errW_some] <;> rfl),bA⟩
      ·rw [if_neg c6] at H
       exact absurd H (by simp)
     ·rw [if_neg c5] at H
      exact absurd H (by simp)
    ·rw [if_neg c4] at H
     have c4b0 : decide (x5_1 < (l0.length : Int)) = false := decide_eq_false c4
     clear c4
     obtain rfl := Option.some.inj H
     go_wp2
     go_ret
     exact ⟨by first | rfl | (simp only [i64_w,i32_w] <;> rfl) | (simp [errW_none,errW_some] <;> rfl) | (simp [*,errW_none,errW_some] <;> rfl),bA⟩
 ·rw [if_neg c3] at H
  have c3b0 : ((l0.length : Int) == (l1.length : Int)) = false := beq_eq_false_iff_ne.mpr c3
  have c3b1 : ((l0.length : Int) != (l1.length : Int)) = true := bne_iff_ne.mpr c3
  have c3b2 : (l0.length == l1.length) = false := by first | simpa using c3 | (simp at c3 ⊢; omega)
  obtain rfl := Option.some.inj H
  go_enter Try.func34,Try.ntmps34
  go_wp2
  go_ret
  exact ⟨by first | rfl | (simp only [i64_w,i32_w] <;> rfl) | (simp [errW_none,errW_some] <;> rfl) | (simp [*,errW_none,errW_some] <;> rfl),bA⟩

/-! ### laws_eqStore: function 11 -/
def laws_eqStore.f (k : Nat) (l0_0 : List (S84)) (a0_1 : Int) (l1_0 : List (S84)) (a1_1 : Int) : Option (Bool) := (laws_eqObjectS.f k l0_0 l1_0).bind fun t236 => (if t236 = true then (if a0_1 = a1_1 then (some true) else (some false)) else (some false))
theorem laws_eqStore.mono : ∀ a0 a1 a2 a3 k,LeO (laws_eqStore.f k a0 a1 a2 a3) (laws_eqStore.f (k + 1) a0 a1 a2 a3) := by
 intro a0 a1 a2 a3 k
 unfold laws_eqStore.f
 repeat' first
 | (with_reducible first | exact laws_eqObjectS.mono .. | exact LeO.refl _ | exact LeO.none _ | refine LeO.ite ?_ ?_ | refine LeO.bind ?_ (fun _ => ?_))
 | exact LeO.none _ | refine LeO.ite ?_ ?_ | refine LeO.bind ?_ (fun _ => ?_)
set_option maxHeartbeats 8000000 in
set_option maxRecDepth 100000 in
theorem laws_eqStore.calls (k : Nat) (A0_0 : Option Addr) (c0_0 : Nat) (l0_0 : List (S84)) (a0_1 : Int) (A1_0 : Option Addr) (c1_0 : Nat) (l1_0 : List (S84)) (a1_1 : Int) (r : Bool) (w : World) (hr0_0 : Kd.C k84 w A0_0 l0_0.length l0_0) (hc0_0 : l0_0.length ≤ c0_0) (hr1_0 : Kd.C k84 w A1_0 l1_0.length l1_0) (hc1_0 : l1_0.length ≤ c1_0) (h : laws_eqStore.f k l0_0 a0_1 l1_0 a1_1 = some r) :
  Calls Try.prog 11 #[.agg #[.slice A0_0 l0_0.length c0_0,.int .i64 a0_1],.agg #[.slice A1_0 l1_0.length c1_0,.int .i64 a1_1]] w fun e w' => e = .returned (.bool r) ∧ Below w.heap.size w w' := by
 have hu24 := Try.underlying24
 have HR0_0 := Aside0.mk hr0_0
 have HC0_0 := Aside0.mk hc0_0
 clear hr0_0 hc0_0
 have HR1_0 := Aside0.mk hr1_0
 have HC1_0 := Aside0.mk hc1_0
 clear hr1_0 hc1_0
 have HB := Aside0.mk (Below.refl w.heap.size w)
 have H : ((laws_eqObjectS.f k l0_0 l1_0).bind fun t236 => (if t236 = true then (if a0_1 = a1_1 then (some true) else (some false)) else (some false))) = some r := h
 clear h
 replace H := Option.bind_eq_some_iff.mp H
 obtain ⟨t236,A30,H⟩ := H
 try dsimp only at H
 have A3 := Aside0.mk A30
 clear A30
 by_cases c4 : t236 = true
 ·subst c4
  rw [if_pos rfl] at H
  by_cases c5 : a0_1 = a1_1
  ·rw [if_pos c5] at H
   have c5b0 : (a0_1 == a1_1) = true := beq_iff_eq.mpr c5
   have c5b1 : (a0_1 != a1_1) = false := bne_eq_false_iff_eq.mpr c5
   clear c5
   obtain rfl := Option.some.inj H
   go_enter Try.func11,Try.ntmps11
   go_wp2_with (first | ((with_reducible refine gate_dst (N:=2) rfl ?_); refine bxe (N:=2) (cs := #[.slice A0_0 l0_0.length c0_0,.int .i64 a0_1]) (t:=24) ?_; intro gb234 hg w6 hbox hb; have BK234 := Aside0.mk (hbox); have GW234 := Aside0.mk ((gw hg : w.heap.size ≤ gb234)); have GE234 := GW234; replace HB := bsA hb; clear hb hbox hg) | ((with_reducible refine gate_dst (N:=3) rfl ?_); refine bxe (N:=3) (cs := #[.slice A1_0 l1_0.length c1_0,.int .i64 a1_1]) (t:=24) ?_; intro gb235 hg w7 hbox hb; have BK235 := Aside0.mk (hbox); have GW235 := Aside0.mk ((gw hg : w.heap.size ≤ gb235)); have GE235 := GW235; replace HB := bsA hb; have NB234_235 := Aside0.mk ((nl hg BK234.out)); have NB235_234 := Aside0.mk ((ng hg BK234.out)); replace BK234 := bbA BK234 hb; clear hb hbox hg; have hnb8 := NB234_235.out; have hnc8 := NB235_234.out; obtain ⟨hcz9_0,hcz9_1⟩ := cl2 BK234.out; obtain ⟨hfz9_0,hfz9_1⟩ := fz2 BK234.out; obtain ⟨hcz10_0,hcz10_1⟩ := cl2 BK235.out; obtain ⟨hfz10_0,hfz10_1⟩ := fz2 BK235.out) | ((with_reducible refine gate_callee (f:=34) rfl ?_); refine goesL_ (some 9) rfl rfl Try.func34 (by kernel_rfl) rfl #[.slice A0_0 l0_0.length c0_0,.slice A1_0 l1_0.length c1_0] rfl mA ?_; (with_reducible refine (laws_eqObjectS.calls k _ _ l0_0 _ _ l1_0 true _ ?side1 ?side2 ?side3 ?side4 A3.out).mono ?_); (case side1 => exact sC HR0_0.out); (case side2 => exact HC0_0.out); (case side3 => exact sC HR1_0.out); (case side4 => exact HC1_0.out); rintro e w11 ⟨rfl,hb⟩; refine ⟨_,rfl,?_⟩; replace BK234 := bbA BK234 hb; replace BK235 := bbA BK235 hb; replace HB := bsA hb; clear hb; obtain ⟨hcz12_0,hcz12_1⟩ := cl2 BK234.out; obtain ⟨hfz12_0,hfz12_1⟩ := fz2 BK234.out; obtain ⟨hcz13_0,hcz13_1⟩ := cl2 BK235.out; obtain ⟨hfz13_0,hfz13_1⟩ := fz2 BK235.out))
   go_ret
   exact ⟨by first | rfl | (simp [errW_none,errW_some] <;> rfl) | (simp [*,errW_none,errW_some] <;> rfl),bA⟩
  ·rw [if_neg c5] at H
   have c5b0 : (a0_1 == a1_1) = false := beq_eq_false_iff_ne.mpr c5
   have c5b1 : (a0_1 != a1_1) = true := bne_iff_ne.mpr c5
   obtain rfl := Option.some.inj H
   go_enter Try.func11,Try.ntmps11
   go_wp2_with (first | ((with_reducible refine gate_dst (N:=2) rfl ?_); refine bxe (N:=2) (cs := #[.slice A0_0 l0_0.length c0_0,.int .i64 a0_1]) (t:=24) ?_; intro gb234 hg w14 hbox hb; have BK234 := Aside0.mk (hbox); have GW234 := Aside0.mk ((gw hg : w.heap.size ≤ gb234)); have GE234 := GW234; replace HB := bsA hb; clear hb hbox hg) | ((with_reducible refine gate_dst (N:=3) rfl ?_); refine bxe (N:=3) (cs := #[.slice A1_0 l1_0.length c1_0,.int .i64 a1_1]) (t:=24) ?_; intro gb235 hg w15 hbox hb; have BK235 := Aside0.mk (hbox); have GW235 := Aside0.mk ((gw hg : w.heap.size ≤ gb235)); have GE235 := GW235; replace HB := bsA hb; have NB234_235 := Aside0.mk ((nl hg BK234.out)); have NB235_234 := Aside0.mk ((ng hg BK234.out)); replace BK234 := bbA BK234 hb; clear hb hbox hg; have hnb16 := NB234_235.out; have hnc16 := NB235_234.out; obtain ⟨hcz17_0,hcz17_1⟩ := cl2 BK234.out; obtain ⟨hfz17_0,hfz17_1⟩ := fz2 BK234.out; obtain ⟨hcz18_0,hcz18_1⟩ := cl2 BK235.out; obtain ⟨hfz18_0,hfz18_1⟩ := fz2 BK235.out) | ((with_reducible refine gate_callee (f:=34) rfl ?_); refine goesL_ (some 9) rfl rfl Try.func34 (by kernel_rfl) rfl #[.slice A0_0 l0_0.length c0_0,.slice A1_0 l1_0.length c1_0] rfl mA ?_; (with_reducible refine (laws_eqObjectS.calls k _ _ l0_0 _ _ l1_0 true _ ?side1 ?side2 ?side3 ?side4 A3.out).mono ?_); (case side1 => exact sC HR0_0.out); (case side2 => exact HC0_0.out); (case side3 => exact sC HR1_0.out); (case side4 => exact HC1_0.out); rintro e w19 ⟨rfl,hb⟩; refine ⟨_,rfl,?_⟩; replace BK234 := bbA BK234 hb; replace BK235 := bbA BK235 hb; replace HB := bsA hb; clear hb; obtain ⟨hcz20_0,hcz20_1⟩ := cl2 BK234.out; obtain ⟨hfz20_0,hfz20_1⟩ := fz2 BK234.out; obtain ⟨hcz21_0,hcz21_1⟩ := cl2 BK235.out; obtain ⟨hfz21_0,hfz21_1⟩ := fz2 BK235.out))
   go_ret
   exact ⟨by first | rfl | (simp [errW_none,errW_some] <;> rfl) | (simp [*,errW_none,errW_some] <;> rfl),bA⟩
 ·replace c4 := Bool.eq_false_iff.mpr c4
  subst c4
  rw [if_neg (show ¬ (false = true) by decide)] at H
  obtain rfl := Option.some.inj H
  go_enter Try.func11,Try.ntmps11
  go_wp2_with (first | ((with_reducible refine gate_dst (N:=2) rfl ?_); refine bxe (N:=2) (cs := #[.slice A0_0 l0_0.length c0_0,.int .i64 a0_1]) (t:=24) ?_; intro gb234 hg w22 hbox hb; have BK234 := Aside0.mk (hbox); have GW234 := Aside0.mk ((gw hg : w.heap.size ≤ gb234)); have GE234 := GW234; replace HB := bsA hb; clear hb hbox hg) | ((with_reducible refine gate_dst (N:=3) rfl ?_); refine bxe (N:=3) (cs := #[.slice A1_0 l1_0.length c1_0,.int .i64 a1_1]) (t:=24) ?_; intro gb235 hg w23 hbox hb; have BK235 := Aside0.mk (hbox); have GW235 := Aside0.mk ((gw hg : w.heap.size ≤ gb235)); have GE235 := GW235; replace HB := bsA hb; have NB234_235 := Aside0.mk ((nl hg BK234.out)); have NB235_234 := Aside0.mk ((ng hg BK234.out)); replace BK234 := bbA BK234 hb; clear hb hbox hg; have hnb24 := NB234_235.out; have hnc24 := NB235_234.out; obtain ⟨hcz25_0,hcz25_1⟩ := cl2 BK234.out; obtain ⟨hfz25_0,hfz25_1⟩ := fz2 BK234.out; obtain ⟨hcz26_0,hcz26_1⟩ := cl2 BK235.out; obtain ⟨hfz26_0,hfz26_1⟩ := fz2 BK235.out) | ((with_reducible refine gate_callee (f:=34) rfl ?_); refine goesL_ (some 9) rfl rfl Try.func34 (by kernel_rfl) rfl #[.slice A0_0 l0_0.length c0_0,.slice A1_0 l1_0.length c1_0] rfl mA ?_; (with_reducible refine (laws_eqObjectS.calls k _ _ l0_0 _ _ l1_0 false _ ?side1 ?side2 ?side3 ?side4 A3.out).mono ?_); (case side1 => exact sC HR0_0.out); (case side2 => exact HC0_0.out); (case side3 => exact sC HR1_0.out); (case side4 => exact HC1_0.out); rintro e w27 ⟨rfl,hb⟩; refine ⟨_,rfl,?_⟩; replace BK234 := bbA BK234 hb; replace BK235 := bbA BK235 hb; replace HB := bsA hb; clear hb))
  go_ret
  exact ⟨by first | rfl | (simp [errW_none,errW_some] <;> rfl) | (simp [*,errW_none,errW_some] <;> rfl),bA⟩

/-! ### laws_eqIntA7: function 12 -/
def laws_eqIntA7.l0 : Nat → Int → Int → Int → Int → Int → Int → Int → Int → Int → Int → Int → Int → Int → Int → Int → Option (Bool)
 | 0,_,_,_,_,_,_,_,_,_,_,_,_,_,_,_ => none
 | k + 1,x5,x238000,x238001,x238002,x238003,x238004,x238005,x238006,x239000,x239001,x239002,x239003,x239004,x239005,x239006 => if x5 < 7 then (if 0 ≤ x5 then (if (at7 x5 x238000 x238001 x238002 x238003 x238004 x238005 x238006) = (at7 x5 x239000 x239001 x239002 x239003 x239004 x239005 x239006) then (laws_eqIntA7.l0 k (wrap64 (x5 + 1)) x238000 x238001 x238002 x238003 x238004 x238005 x238006 x239000 x239001 x239002 x239003 x239004 x239005 x239006) else (some false)) else (none)) else (some true)
def laws_eqIntA7.f (k : Nat) (a0_0 : Int) (a0_1 : Int) (a0_2 : Int) (a0_3 : Int) (a0_4 : Int) (a0_5 : Int) (a0_6 : Int) (a1_0 : Int) (a1_1 : Int) (a1_2 : Int) (a1_3 : Int) (a1_4 : Int) (a1_5 : Int) (a1_6 : Int) : Option (Bool) := laws_eqIntA7.l0 k 0 a0_0 a0_1 a0_2 a0_3 a0_4 a0_5 a0_6 a1_0 a1_1 a1_2 a1_3 a1_4 a1_5 a1_6
theorem laws_eqIntA7.mono_l : ∀ k,(∀ y0 y1 y2 y3 y4 y5 y6 y7 y8 y9 y10 y11 y12 y13 y14,LeO (laws_eqIntA7.l0 k y0 y1 y2 y3 y4 y5 y6 y7 y8 y9 y10 y11 y12 y13 y14) (laws_eqIntA7.l0 (k + 1) y0 y1 y2 y3 y4 y5 y6 y7 y8 y9 y10 y11 y12 y13 y14))
 | 0 => fun _ _ _ _ _ _ _ _ _ _ _ _ _ _ _ r h => by simp [laws_eqIntA7.l0] at h
 | k + 1 => by
  have ih0 := laws_eqIntA7.mono_l k
  ·intro y0 y1 y2 y3 y4 y5 y6 y7 y8 y9 y10 y11 y12 y13 y14
   unfold laws_eqIntA7.l0
   repeat' first
   | (with_reducible first | exact ih0 .. | exact LeO.refl _ | exact LeO.none _ | refine LeO.ite ?_ ?_ | refine LeO.bind ?_ (fun _ => ?_))
   | exact LeO.none _ | refine LeO.ite ?_ ?_ | refine LeO.bind ?_ (fun _ => ?_)
theorem laws_eqIntA7.mono : ∀ a0 a1 a2 a3 a4 a5 a6 a7 a8 a9 a10 a11 a12 a13 k,LeO (laws_eqIntA7.f k a0 a1 a2 a3 a4 a5 a6 a7 a8 a9 a10 a11 a12 a13) (laws_eqIntA7.f (k + 1) a0 a1 a2 a3 a4 a5 a6 a7 a8 a9 a10 a11 a12 a13) := by
 intro a0 a1 a2 a3 a4 a5 a6 a7 a8 a9 a10 a11 a12 a13 k
 have ih0 := laws_eqIntA7.mono_l k
 unfold laws_eqIntA7.f
 repeat' first
 | (with_reducible first | exact ih0 .. | exact LeO.refl _ | exact LeO.none _ | refine LeO.ite ?_ ?_ | refine LeO.bind ?_ (fun _ => ?_))
 | exact LeO.none _ | refine LeO.ite ?_ ?_ | refine LeO.bind ?_ (fun _ => ?_)
set_option maxHeartbeats 8000000 in
set_option maxRecDepth 100000 in
theorem laws_eqIntA7.calls (k : Nat) (a0_0 : Int) (a0_1 : Int) (a0_2 : Int) (a0_3 : Int) (a0_4 : Int) (a0_5 : Int) (a0_6 : Int) (a1_0 : Int) (a1_1 : Int) (a1_2 : Int) (a1_3 : Int) (a1_4 : Int) (a1_5 : Int) (a1_6 : Int) (r : Bool) (w : World) (h : laws_eqIntA7.f k a0_0 a0_1 a0_2 a0_3 a0_4 a0_5 a0_6 a1_0 a1_1 a1_2 a1_3 a1_4 a1_5 a1_6 = some r) :
  Calls Try.prog 12 #[.agg #[.int .i64 a0_0,.int .i64 a0_1,.int .i64 a0_2,.int .i64 a0_3,.int .i64 a0_4,.int .i64 a0_5,.int .i64 a0_6],.agg #[.int .i64 a1_0,.int .i64 a1_1,.int .i64 a1_2,.int .i64 a1_3,.int .i64 a1_4,.int .i64 a1_5,.int .i64 a1_6]] w fun e w' => e = .returned (.bool r) ∧ Below w.heap.size w w' := by
 have hu25 := Try.underlying25
 have HB := Aside0.mk (Below.refl w.heap.size w)
 have H : (laws_eqIntA7.l0 k 0 a0_0 a0_1 a0_2 a0_3 a0_4 a0_5 a0_6 a1_0 a1_1 a1_2 a1_3 a1_4 a1_5 a1_6) = some r := h
 clear h
 have H' := Aside0.mk H
 clear H
 go_enter Try.func12,Try.ntmps12
 go_wp2_with (first | ((with_reducible refine gate_dst (N:=2) rfl ?_); refine bxe (N:=2) (cs := #[.int .i64 a0_0,.int .i64 a0_1,.int .i64 a0_2,.int .i64 a0_3,.int .i64 a0_4,.int .i64 a0_5,.int .i64 a0_6]) (t:=25) ?_; intro gb237 hg w3 hbox hb; have BK237 := Aside0.mk (hbox); have GW237 := Aside0.mk ((gw hg : w.heap.size ≤ gb237)); have GE237 := GW237; replace HB := bsA hb; clear hb hbox hg) | ((with_reducible refine gate_dst (N:=3) rfl ?_); refine bxe (N:=3) (cs := #[.int .i64 a1_0,.int .i64 a1_1,.int .i64 a1_2,.int .i64 a1_3,.int .i64 a1_4,.int .i64 a1_5,.int .i64 a1_6]) (t:=25) ?_; intro gb238 hg w4 hbox hb; have BK238 := Aside0.mk (hbox); have GW238 := Aside0.mk ((gw hg : w.heap.size ≤ gb238)); have GE238 := GW238; replace HB := bsA hb; have NB237_238 := Aside0.mk ((nl hg BK237.out)); have NB238_237 := Aside0.mk ((ng hg BK237.out)); replace BK237 := bbA BK237 hb; clear hb hbox hg))
 repeat (go_quiet (first | ((with_reducible refine gate_dst (N:=2) rfl ?_); refine bxe (N:=2) (cs := #[.int .i64 a0_0,.int .i64 a0_1,.int .i64 a0_2,.int .i64 a0_3,.int .i64 a0_4,.int .i64 a0_5,.int .i64 a0_6]) (t:=25) ?_; intro gb237 hg w3 hbox hb; have BK237 := Aside0.mk (hbox); have GW237 := Aside0.mk ((gw hg : w.heap.size ≤ gb237)); have GE237 := GW237; replace HB := bsA hb; clear hb hbox hg) | ((with_reducible refine gate_dst (N:=3) rfl ?_); refine bxe (N:=3) (cs := #[.int .i64 a1_0,.int .i64 a1_1,.int .i64 a1_2,.int .i64 a1_3,.int .i64 a1_4,.int .i64 a1_5,.int .i64 a1_6]) (t:=25) ?_; intro gb238 hg w4 hbox hb; have BK238 := Aside0.mk (hbox); have GW238 := Aside0.mk ((gw hg : w.heap.size ≤ gb238)); have GE238 := GW238; replace HB := bsA hb; have NB237_238 := Aside0.mk ((nl hg BK237.out)); have NB238_237 := Aside0.mk ((ng hg BK237.out)); replace BK237 := bbA BK237 hb; clear hb hbox hg)); try go_wp2_with (first | ((with_reducible refine gate_dst (N:=2) rfl ?_); refine bxe (N:=2) (cs := #[.int .i64 a0_0,.int .i64 a0_1,.int .i64 a0_2,.int .i64 a0_3,.int .i64 a0_4,.int .i64 a0_5,.int .i64 a0_6]) (t:=25) ?_; intro gb237 hg w3 hbox hb; have BK237 := Aside0.mk (hbox); have GW237 := Aside0.mk ((gw hg : w.heap.size ≤ gb237)); have GE237 := GW237; replace HB := bsA hb; clear hb hbox hg) | ((with_reducible refine gate_dst (N:=3) rfl ?_); refine bxe (N:=3) (cs := #[.int .i64 a1_0,.int .i64 a1_1,.int .i64 a1_2,.int .i64 a1_3,.int .i64 a1_4,.int .i64 a1_5,.int .i64 a1_6]) (t:=25) ?_; intro gb238 hg w4 hbox hb; have BK238 := Aside0.mk (hbox); have GW238 := Aside0.mk ((gw hg : w.heap.size ≤ gb238)); have GE238 := GW238; replace HB := bsA hb; have NB237_238 := Aside0.mk ((nl hg BK237.out)); have NB238_237 := Aside0.mk ((ng hg BK237.out)); replace BK237 := bbA BK237 hb; clear hb hbox hg)))
 go_loopg [5] k (fun kq v5 w' => ∃ (x5_1 : Int),v5 = .int .i64 x5_1 ∧ Aside0 (laws_eqIntA7.l0 kq x5_1 a0_0 a0_1 a0_2 a0_3 a0_4 a0_5 a0_6 a1_0 a1_1 a1_2 a1_3 a1_4 a1_5 a1_6 = some r) ∧ Aside0 (kq ≤ k) ∧ Aside0 (w'.heap[gb237]? = some (.cells #[.int .i64 a0_0,.int .i64 a0_1,.int .i64 a0_2,.int .i64 a0_3,.int .i64 a0_4,.int .i64 a0_5,.int .i64 a0_6] 25 (0,0))) ∧ Aside0 (w'.heap[gb238]? = some (.cells #[.int .i64 a1_0,.int .i64 a1_1,.int .i64 a1_2,.int .i64 a1_3,.int .i64 a1_4,.int .i64 a1_5,.int .i64 a1_6] 25 (0,0))) ∧ Aside0 (Below w.heap.size w w'))
 case atStart => exact ⟨(0),(by first | rfl | (simp; done) | (simp [*]; done)),H',⟨Nat.le_refl _⟩,⟨kA BK237.out⟩,⟨kA BK238.out⟩,⟨bA⟩⟩
 case round =>
  clear H'
  try clear c1
  try clear p2
  obtain ⟨x5_1,rfl,HA,HK1,BK237,BK238,HB⟩ := hrel
  cases gk with
  | zero => exact absurd HA.out (by simp [laws_eqIntA7.l0])
  | succ k1 =>
   have H := HA.out
   clear HA
   simp only [laws_eqIntA7.l0] at H
   by_cases c5 : x5_1 < 7
   ·rw [if_pos c5] at H
    have c5b0 : decide (x5_1 < 7) = true := decide_eq_true c5
    clear c5
    by_cases c6 : 0 ≤ x5_1
    ·rw [if_pos c6] at H
     have c6b0 : decide (0 ≤ x5_1) = true := decide_eq_true c6
     clear c6
     by_cases c7 : (at7 x5_1 a0_0 a0_1 a0_2 a0_3 a0_4 a0_5 a0_6) = (at7 x5_1 a1_0 a1_1 a1_2 a1_3 a1_4 a1_5 a1_6)
     ·rw [if_pos c7] at H
      have c7b0 : ((at7 x5_1 a0_0 a0_1 a0_2 a0_3 a0_4 a0_5 a0_6) == (at7 x5_1 a1_0 a1_1 a1_2 a1_3 a1_4 a1_5 a1_6)) = true := beq_iff_eq.mpr c7
      have c7b1 : ((at7 x5_1 a0_0 a0_1 a0_2 a0_3 a0_4 a0_5 a0_6) != (at7 x5_1 a1_0 a1_1 a1_2 a1_3 a1_4 a1_5 a1_6)) = false := bne_eq_false_iff_eq.mpr c7
      clear c7
      have H' := Aside0.mk H
      clear H
      have hia8 := ia_dyn0 (P:=Try.prog) (t:=25) (e:=3) Try.underlying25 (by kernel_rfl) (by kernel_rfl) gb237 x5_1 (od) (od)
      have hnb9 := NB237_238.out
      have hnc9 := NB238_237.out
      obtain ⟨hcz10_0,hcz10_1,hcz10_2,hcz10_3,hcz10_4,hcz10_5,hcz10_6⟩ := cl7 BK237.out
      obtain ⟨hfz10_0,hfz10_1,hfz10_2,hfz10_3,hfz10_4,hfz10_5,hfz10_6⟩ := fz7 BK237.out
      have hca11 : wr.cell? ⟨gb237,x5_1.toNat,none⟩ = some (.int .i64 (at7 x5_1 a0_0 a0_1 a0_2 a0_3 a0_4 a0_5 a0_6)) := at7_cell0 (od) (od) (bl BK237 0) (bl BK237 1) (bl BK237 2) (bl BK237 3) (bl BK237 4) (bl BK237 5) (bl BK237 6)
      have hia12 := ia_dyn0 (P:=Try.prog) (t:=25) (e:=3) Try.underlying25 (by kernel_rfl) (by kernel_rfl) gb238 x5_1 (od) (od)
      obtain ⟨hcz13_0,hcz13_1,hcz13_2,hcz13_3,hcz13_4,hcz13_5,hcz13_6⟩ := cl7 BK238.out
      obtain ⟨hfz13_0,hfz13_1,hfz13_2,hfz13_3,hfz13_4,hfz13_5,hfz13_6⟩ := fz7 BK238.out
      have hca14 : wr.cell? ⟨gb238,x5_1.toNat,none⟩ = some (.int .i64 (at7 x5_1 a1_0 a1_1 a1_2 a1_3 a1_4 a1_5 a1_6)) := at7_cell0 (od) (od) (bl BK238 0) (bl BK238 1) (bl BK238 2) (bl BK238 3) (bl BK238 4) (bl BK238 5) (bl BK238 6)
      go_wp2
      repeat (go_quiet (fail); try go_wp2)
      go_roundg k1
      case measure => have := HK1.out; omega
      case rel => exact ⟨(wrap64 (x5_1 + 1)),(by first | rfl | (simp; done) | (simp [*]; done)),H',⟨by have := HK1.out; omega⟩,⟨kA BK237.out⟩,⟨kA BK238.out⟩,⟨bA⟩⟩
     ·rw [if_neg c7] at H
      have c7b0 : ((at7 x5_1 a0_0 a0_1 a0_2 a0_3 a0_4 a0_5 a0_6) == (at7 x5_1 a1_0 a1_1 a1_2 a1_3 a1_4 a1_5 a1_6)) = false := beq_eq_false_iff_ne.mpr c7
      have c7b1 : ((at7 x5_1 a0_0 a0_1 a0_2 a0_3 a0_4 a0_5 a0_6) != (at7 x5_1 a1_0 a1_1 a1_2 a1_3 a1_4 a1_5 a1_6)) = true := bne_iff_ne.mpr c7
      obtain rfl := Option.some.inj H
      have hia15 := ia_dyn0 (P:=Try.prog) (t:=25) (e:=3) Try.underlying25 (by kernel_rfl) (by kernel_rfl) gb237 x5_1 (od) (od)
      have hnb16 := NB237_238.out
      have hnc16 := NB238_237.out
      obtain ⟨hcz17_0,hcz17_1,hcz17_2,hcz17_3,hcz17_4,hcz17_5,hcz17_6⟩ := cl7 BK237.out
      obtain ⟨hfz17_0,hfz17_1,hfz17_2,hfz17_3,hfz17_4,hfz17_5,hfz17_6⟩ := fz7 BK237.out
      have hca18 : wr.cell? ⟨gb237,x5_1.toNat,none⟩ = some (.int .i64 (at7 x5_1 a0_0 a0_1 a0_2 a0_3 a0_4 a0_5 a0_6)) := at7_cell0 (od) (od) (bl BK237 0) (bl BK237 1) (bl BK237 2) (bl BK237 3) (bl BK237 4) (bl BK237 5) (bl BK237 6)
      have hia19 := ia_dyn0 (P:=Try.prog) (t:=25) (e:=3) Try.underlying25 (by kernel_rfl) (by kernel_rfl) gb238 x5_1 (od) (od)
      obtain ⟨hcz20_0,hcz20_1,hcz20_2,hcz20_3,hcz20_4,hcz20_5,hcz20_6⟩ := cl7 BK238.out
      obtain ⟨hfz20_0,hfz20_1,hfz20_2,hfz20_3,hfz20_4,hfz20_5,hfz20_6⟩ := fz7 BK238.out
      have hca21 : wr.cell? ⟨gb238,x5_1.toNat,none⟩ = some (.int .i64 (at7 x5_1 a1_0 a1_1 a1_2 a1_3 a1_4 a1_5 a1_6)) := at7_cell0 (od) (od) (bl BK238 0) (bl BK238 1) (bl BK238 2) (bl BK238 3) (bl BK238 4) (bl BK238 5) (bl BK238 6)
      go_wp2
      repeat (go_quiet (fail); try go_wp2)
      go_ret
      exact ⟨by first | rfl | (simp only [i64_w,i32_w] <;> rfl) | (simp [errW_none,errW_some] <;> rfl) | (simp [*,errW_none,errW_some] <;> rfl),bA⟩
    ·rw [if_neg c6] at H
     exact absurd H (by simp)
   ·rw [if_neg c5] at H
    have c5b0 : decide (x5_1 < 7) = false := decide_eq_false c5
    clear c5
    obtain rfl := Option.some.inj H
    go_wp2
    repeat (go_quiet (fail); try go_wp2)
    go_ret
    exact ⟨by first | rfl | (simp only [i64_w,i32_w] <;> rfl) | (simp [errW_none,errW_some] <;> rfl) | (simp [*,errW_none,errW_some] <;> rfl),bA⟩

/-! ### laws_eqRecord: function 47 -/
def laws_eqRecord.f (a0_0 : Int) (a0_1 : Int) (a0_2 : Int) (a0_3 : Int) (a0_4 : Int) (a0_5 : ByteArray) (a1_0 : Int) (a1_1 : Int) (a1_2 : Int) (a1_3 : Int) (a1_4 : Int) (a1_5 : ByteArray) : Option (Bool) := if a0_0 = a1_0 then (if a0_1 = a1_1 then (if a0_2 = a1_2 then (if a0_3 = a1_3 then (if a0_4 = a1_4 then (if a0_5.toList = a1_5.toList then (some true) else (some false)) else (some false)) else (some false)) else (some false)) else (some false)) else (some false)
set_option maxHeartbeats 8000000 in
set_option maxRecDepth 100000 in
theorem laws_eqRecord.calls (a0_0 : Int) (a0_1 : Int) (a0_2 : Int) (a0_3 : Int) (a0_4 : Int) (a0_5 : ByteArray) (a1_0 : Int) (a1_1 : Int) (a1_2 : Int) (a1_3 : Int) (a1_4 : Int) (a1_5 : ByteArray) (r : Bool) (w : World) (h : laws_eqRecord.f a0_0 a0_1 a0_2 a0_3 a0_4 a0_5 a1_0 a1_1 a1_2 a1_3 a1_4 a1_5 = some r) :
  Calls Try.prog 47 #[.agg #[.int .i64 a0_0,.int .i64 a0_1,.int .i64 a0_2,.int .i64 a0_3,.int .i64 a0_4,.string a0_5],.agg #[.int .i64 a1_0,.int .i64 a1_1,.int .i64 a1_2,.int .i64 a1_3,.int .i64 a1_4,.string a1_5]] w fun e w' => e = .returned (.bool r) ∧ Below w.heap.size w w' := by
 have hu39 := Try.underlying39
 have HB := Aside0.mk (Below.refl w.heap.size w)
 have H : (if a0_0 = a1_0 then (if a0_1 = a1_1 then (if a0_2 = a1_2 then (if a0_3 = a1_3 then (if a0_4 = a1_4 then (if a0_5.toList = a1_5.toList then (some true) else (some false)) else (some false)) else (some false)) else (some false)) else (some false)) else (some false)) = some r := h
 clear h
 by_cases c3 : a0_0 = a1_0
 ·rw [if_pos c3] at H
  have c3b0 : (a0_0 == a1_0) = true := beq_iff_eq.mpr c3
  have c3b1 : (a0_0 != a1_0) = false := bne_eq_false_iff_eq.mpr c3
  clear c3
  by_cases c4 : a0_1 = a1_1
  ·rw [if_pos c4] at H
   have c4b0 : (a0_1 == a1_1) = true := beq_iff_eq.mpr c4
   have c4b1 : (a0_1 != a1_1) = false := bne_eq_false_iff_eq.mpr c4
   clear c4
   by_cases c5 : a0_2 = a1_2
   ·rw [if_pos c5] at H
    have c5b0 : (a0_2 == a1_2) = true := beq_iff_eq.mpr c5
    have c5b1 : (a0_2 != a1_2) = false := bne_eq_false_iff_eq.mpr c5
    clear c5
    by_cases c6 : a0_3 = a1_3
    ·rw [if_pos c6] at H
     have c6b0 : (a0_3 == a1_3) = true := beq_iff_eq.mpr c6
     have c6b1 : (a0_3 != a1_3) = false := bne_eq_false_iff_eq.mpr c6
     clear c6
     by_cases c7 : a0_4 = a1_4
     ·rw [if_pos c7] at H
      have c7b0 : (a0_4 == a1_4) = true := beq_iff_eq.mpr c7
      have c7b1 : (a0_4 != a1_4) = false := bne_eq_false_iff_eq.mpr c7
      clear c7
      by_cases c8 : a0_5.toList = a1_5.toList
      ·rw [if_pos c8] at H
       have c8b0 : (a0_5.toList == a1_5.toList) = true := beq_iff_eq.mpr c8
       have c8b1 : (a0_5.toList != a1_5.toList) = false := bne_eq_false_iff_eq.mpr c8
       clear c8
       obtain rfl := Option.some.inj H
       go_enter Try.func47,Try.ntmps47
       go_wp2
       go_ret
       exact ⟨by first | rfl | (simp [errW_none,errW_some] <;> rfl) | (simp [*,errW_none,errW_some] <;> rfl),bA⟩
      ·rw [if_neg c8] at H
       have c8b0 : (a0_5.toList == a1_5.toList) = false := beq_eq_false_iff_ne.mpr c8
       have c8b1 : (a0_5.toList != a1_5.toList) = true := bne_iff_ne.mpr c8
       obtain rfl := Option.some.inj H
       go_enter Try.func47,Try.ntmps47
       go_wp2
       go_ret
       exact ⟨by first | rfl | (simp [errW_none,errW_some] <;> rfl) | (simp [*,errW_none,errW_some] <;> rfl),bA⟩
     ·rw [if_neg c7] at H
      have c7b0 : (a0_4 == a1_4) = false := beq_eq_false_iff_ne.mpr c7
      have c7b1 : (a0_4 != a1_4) = true := bne_iff_ne.mpr c7
      obtain rfl := Option.some.inj H
      go_enter Try.func47,Try.ntmps47
      go_wp2
      go_ret
      exact ⟨by first | rfl | (simp [errW_none,errW_some] <;> rfl) | (simp [*,errW_none,errW_some] <;> rfl),bA⟩
    ·rw [if_neg c6] at H
     have c6b0 : (a0_3 == a1_3) = false := beq_eq_false_iff_ne.mpr c6
     have c6b1 : (a0_3 != a1_3) = true := bne_iff_ne.mpr c6
     obtain rfl := Option.some.inj H
     go_enter Try.func47,Try.ntmps47
     go_wp2
     go_ret
     exact ⟨by first | rfl | (simp [errW_none,errW_some] <;> rfl) | (simp [*,errW_none,errW_some] <;> rfl),bA⟩
   ·rw [if_neg c5] at H
    have c5b0 : (a0_2 == a1_2) = false := beq_eq_false_iff_ne.mpr c5
    have c5b1 : (a0_2 != a1_2) = true := bne_iff_ne.mpr c5
    obtain rfl := Option.some.inj H
    go_enter Try.func47,Try.ntmps47
    go_wp2
    go_ret
    exact ⟨by first | rfl | (simp [errW_none,errW_some] <;> rfl) | (simp [*,errW_none,errW_some] <;> rfl),bA⟩
  ·rw [if_neg c4] at H
   have c4b0 : (a0_1 == a1_1) = false := beq_eq_false_iff_ne.mpr c4
   have c4b1 : (a0_1 != a1_1) = true := bne_iff_ne.mpr c4
   obtain rfl := Option.some.inj H
   go_enter Try.func47,Try.ntmps47
   go_wp2
   go_ret
   exact ⟨by first | rfl | (simp [errW_none,errW_some] <;> rfl) | (simp [*,errW_none,errW_some] <;> rfl),bA⟩
 ·rw [if_neg c3] at H
  have c3b0 : (a0_0 == a1_0) = false := beq_eq_false_iff_ne.mpr c3
  have c3b1 : (a0_0 != a1_0) = true := bne_iff_ne.mpr c3
  obtain rfl := Option.some.inj H
  go_enter Try.func47,Try.ntmps47
  go_wp2
  go_ret
  exact ⟨by first | rfl | (simp [errW_none,errW_some] <;> rfl) | (simp [*,errW_none,errW_some] <;> rfl),bA⟩

/-! ### laws_eqEntry: function 50 -/
def laws_eqEntry.f (a0_0 : Int) (a0_1 : Int) (a0_2 : Int) (a0_3 : ByteArray) (a1_0 : Int) (a1_1 : Int) (a1_2 : Int) (a1_3 : ByteArray) : Option (Bool) := if a0_0 = a1_0 then (if a0_1 = a1_1 then (if a0_2 = a1_2 then (if a0_3.toList = a1_3.toList then (some true) else (some false)) else (some false)) else (some false)) else (some false)
set_option maxHeartbeats 8000000 in
set_option maxRecDepth 100000 in
theorem laws_eqEntry.calls (a0_0 : Int) (a0_1 : Int) (a0_2 : Int) (a0_3 : ByteArray) (a1_0 : Int) (a1_1 : Int) (a1_2 : Int) (a1_3 : ByteArray) (r : Bool) (w : World) (h : laws_eqEntry.f a0_0 a0_1 a0_2 a0_3 a1_0 a1_1 a1_2 a1_3 = some r) :
  Calls Try.prog 50 #[.agg #[.int .i64 a0_0,.int .i64 a0_1,.int .i64 a0_2,.string a0_3],.agg #[.int .i64 a1_0,.int .i64 a1_1,.int .i64 a1_2,.string a1_3]] w fun e w' => e = .returned (.bool r) ∧ Below w.heap.size w w' := by
 have hu90 := Try.underlying90
 have HB := Aside0.mk (Below.refl w.heap.size w)
 have H : (if a0_0 = a1_0 then (if a0_1 = a1_1 then (if a0_2 = a1_2 then (if a0_3.toList = a1_3.toList then (some true) else (some false)) else (some false)) else (some false)) else (some false)) = some r := h
 clear h
 by_cases c3 : a0_0 = a1_0
 ·rw [if_pos c3] at H
  have c3b0 : (a0_0 == a1_0) = true := beq_iff_eq.mpr c3
  have c3b1 : (a0_0 != a1_0) = false := bne_eq_false_iff_eq.mpr c3
  clear c3
  by_cases c4 : a0_1 = a1_1
  ·rw [if_pos c4] at H
   have c4b0 : (a0_1 == a1_1) = true := beq_iff_eq.mpr c4
   have c4b1 : (a0_1 != a1_1) = false := bne_eq_false_iff_eq.mpr c4
   clear c4
   by_cases c5 : a0_2 = a1_2
   ·rw [if_pos c5] at H
    have c5b0 : (a0_2 == a1_2) = true := beq_iff_eq.mpr c5
    have c5b1 : (a0_2 != a1_2) = false := bne_eq_false_iff_eq.mpr c5
    clear c5
    by_cases c6 : a0_3.toList = a1_3.toList
    ·rw [if_pos c6] at H
     have c6b0 : (a0_3.toList == a1_3.toList) = true := beq_iff_eq.mpr c6
     have c6b1 : (a0_3.toList != a1_3.toList) = false := bne_eq_false_iff_eq.mpr c6
     clear c6
     obtain rfl := Option.some.inj H
     go_enter Try.func50,Try.ntmps50
     go_wp2
     go_ret
     exact ⟨by first | rfl | (simp [errW_none,errW_some] <;> rfl) | (simp [*,errW_none,errW_some] <;> rfl),bA⟩
    ·rw [if_neg c6] at H
     have c6b0 : (a0_3.toList == a1_3.toList) = false := beq_eq_false_iff_ne.mpr c6
     have c6b1 : (a0_3.toList != a1_3.toList) = true := bne_iff_ne.mpr c6
     obtain rfl := Option.some.inj H
     go_enter Try.func50,Try.ntmps50
     go_wp2
     go_ret
     exact ⟨by first | rfl | (simp [errW_none,errW_some] <;> rfl) | (simp [*,errW_none,errW_some] <;> rfl),bA⟩
   ·rw [if_neg c5] at H
    have c5b0 : (a0_2 == a1_2) = false := beq_eq_false_iff_ne.mpr c5
    have c5b1 : (a0_2 != a1_2) = true := bne_iff_ne.mpr c5
    obtain rfl := Option.some.inj H
    go_enter Try.func50,Try.ntmps50
    go_wp2
    go_ret
    exact ⟨by first | rfl | (simp [errW_none,errW_some] <;> rfl) | (simp [*,errW_none,errW_some] <;> rfl),bA⟩
  ·rw [if_neg c4] at H
   have c4b0 : (a0_1 == a1_1) = false := beq_eq_false_iff_ne.mpr c4
   have c4b1 : (a0_1 != a1_1) = true := bne_iff_ne.mpr c4
   obtain rfl := Option.some.inj H
   go_enter Try.func50,Try.ntmps50
   go_wp2
   go_ret
   exact ⟨by first | rfl | (simp [errW_none,errW_some] <;> rfl) | (simp [*,errW_none,errW_some] <;> rfl),bA⟩
 ·rw [if_neg c3] at H
  have c3b0 : (a0_0 == a1_0) = false := beq_eq_false_iff_ne.mpr c3
  have c3b1 : (a0_0 != a1_0) = true := bne_iff_ne.mpr c3
  obtain rfl := Option.some.inj H
  go_enter Try.func50,Try.ntmps50
  go_wp2
  go_ret
  exact ⟨by first | rfl | (simp [errW_none,errW_some] <;> rfl) | (simp [*,errW_none,errW_some] <;> rfl),bA⟩

end Go.Proofs.Ytmfichcgmofpkaa.XFnExactNewFleet
