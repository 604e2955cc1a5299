-- Printed by this session's own program wip/tools/xprint.py, which widens the kit's print. Not trusted: Lean checks it.
import Derived.Test.YtmfichcgmofpkaaXFnExactNewFleetx0
import Derived.Test.YtmfichcgmofpkaaXFnExactNewFleetx2
import Derived.Test.YtmfichcgmofpkaaXFnExactNewFleetx4
import Derived.Test.YtmfichcgmofpkaaXFnExactNewFleetx5
import Derived.Test.YtmfichcgmofpkaaXFnExactNewFleetx6
import Derived.Test.YtmfichcgmofpkaaXFnExactNewFleetx7
namespace Go.Proofs.Ytmfichcgmofpkaa.XFnExactNewFleet
open List (setIfInBounds_toArray set_cons_zero set_cons_succ)
open Go.RowKit Go.Proofs.YtmfichcgmofpkaaW.PrintWords Go.Proofs.YtmfichcgmofpkaaW.PrintLast Go.Proofs.YtmfichcgmofpkaaW.PrintMore
attribute [local go_sem] max2_int min2_int max_two min_two max_three min_three max_four min_four   -- for this text's walks alone
set_option linter.unusedVariables false
set_option linter.unusedSimpArgs false

/-! ### laws_eqAnswerS: function 17 -/
def laws_eqAnswerS.l0 : Nat → List (S77) → List (S77) → Int → Option (Bool)
 | 0,_,_,_ => none
 | k + 1,x0,x1,x5 => if x5 < (x0.length : Int) then (if 0 ≤ x5 then (if x5 < (x1.length : Int) then ((laws_eqAnswer.f ((rd_T77 x0 x5).f0) ((rd_T77 x0 x5).f1) ((rd_T77 x0 x5).f2) ((rd_T77 x0 x5).f3) ((rd_T77 x0 x5).f4.f0) ((rd_T77 x0 x5).f4.f1) ((rd_T77 x0 x5).f4.f2) ((rd_T77 x0 x5).f4.f3) ((rd_T77 x0 x5).f4.f4) ((rd_T77 x0 x5).f4.f5) ((rd_T77 x1 x5).f0) ((rd_T77 x1 x5).f1) ((rd_T77 x1 x5).f2) ((rd_T77 x1 x5).f3) ((rd_T77 x1 x5).f4.f0) ((rd_T77 x1 x5).f4.f1) ((rd_T77 x1 x5).f4.f2) ((rd_T77 x1 x5).f4.f3) ((rd_T77 x1 x5).f4.f4) ((rd_T77 x1 x5).f4.f5)).bind fun t279 => (if t279 = true then (laws_eqAnswerS.l0 k x0 x1 (wrap64 (x5 + 1))) else (some false))) else (none)) else (none)) else (some true)
def laws_eqAnswerS.f (k : Nat) (l0 : List (S77)) (l1 : List (S77)) : Option (Bool) := if (l0.length : Int) = (l1.length : Int) then (laws_eqAnswerS.l0 k l0 l1 0) else (some false)
theorem laws_eqAnswerS.mono_l : ∀ k,(∀ y0 y1 y2,LeO (laws_eqAnswerS.l0 k y0 y1 y2) (laws_eqAnswerS.l0 (k + 1) y0 y1 y2))
 | 0 => fun _ _ _ r h => by simp [laws_eqAnswerS.l0] at h
 | k + 1 => by
  have ih0 := laws_eqAnswerS.mono_l k
  ·intro y0 y1 y2
   unfold laws_eqAnswerS.l0
   repeat' first
   | (with_reducible first | exact ih0 .. | exact LeO.refl _ | exact LeO.none _ | refine LeO.ite ?_ ?_ | refine LeO.bind ?_ (fun _ => ?_))
   | exact LeO.none _ | refine LeO.ite ?_ ?_ | refine LeO.bind ?_ (fun _ => ?_)
theorem laws_eqAnswerS.mono : ∀ a0 a1 k,LeO (laws_eqAnswerS.f k a0 a1) (laws_eqAnswerS.f (k + 1) a0 a1) := by
 intro a0 a1 k
 have ih0 := laws_eqAnswerS.mono_l k
 unfold laws_eqAnswerS.f
 repeat' first
 | (with_reducible first | exact ih0 .. | exact LeO.refl _ | exact LeO.none _ | refine LeO.ite ?_ ?_ | refine LeO.bind ?_ (fun _ => ?_))
 | exact LeO.none _ | refine LeO.ite ?_ ?_ | refine LeO.bind ?_ (fun _ => ?_)
def laws_eqAnswerS.T6 : Bool × List (List Nat × List Nat) := (true,[([],[]),([],[]),([0,1],[0,1]),([2],[2]),([],[]),([],[]),([4,5],[4,5]),([6],[6]),([3,7],[3,7]),([8],[8])])
def laws_eqAnswerS.B6 : List Nat := [0,0,3,7,0,0,48,112,255,511]
theorem laws_eqAnswerS.tab6 : rtab .any (opsOf Try.f17 6) = laws_eqAnswerS.T6 := by kernel_rfl
theorem laws_eqAnswerS.bits6 : waitsOk laws_eqAnswerS.T6.2 laws_eqAnswerS.B6 = true := by kernel_rfl
set_option maxHeartbeats 8000000 in
set_option maxRecDepth 100000 in
theorem laws_eqAnswerS.calls (k : Nat) (A0 : Option Addr) (c0 : Nat) (l0 : List (S77)) (A1 : Option Addr) (c1 : Nat) (l1 : List (S77)) (r : Bool) (w : World) (hr0 : Kd.C k77 w A0 l0.length l0) (hc0 : l0.length ≤ c0) (hr1 : Kd.C k77 w A1 l1.length l1) (hc1 : l1.length ≤ c1) (h : laws_eqAnswerS.f k l0 l1 = some r) :
  Calls Try.prog 17 #[.slice A0 l0.length c0,.slice A1 l1.length c1] w fun e w' => e = .returned (.bool r) ∧ Below w.heap.size w w' := by
 have hu77 := Try.underlying77
 have HR0 := Aside0.mk hr0
 have HC0 := Aside0.mk hc0
 clear hr0 hc0
 have HR1 := Aside0.mk hr1
 have HC1 := Aside0.mk hc1
 clear hr1 hc1
 have HB := Aside0.mk (Below.refl w.heap.size w)
 have H : (if (l0.length : Int) = (l1.length : Int) then (laws_eqAnswerS.l0 k l0 l1 0) else (some false)) = some r := h
 clear h
 by_cases c3 : (l0.length : Int) = (l1.length : Int)
 ·rw [if_pos c3] at H
  have c3b0 : ((l0.length : Int) == (l1.length : Int)) = true := beq_iff_eq.mpr c3
  have c3b1 : ((l0.length : Int) != (l1.length : Int)) = false := bne_eq_false_iff_eq.mpr c3
  have c3b2 : (l0.length == l1.length) = true := by first | simpa using c3 | (simp at c3 ⊢; omega)
  clear c3
  have H' := Aside0.mk H
  clear H
  go_enter Try.func17,Try.ntmps17
  go_wp2
  go_loopg [5] k (fun kq v5 w' => ∃ (x5_1 : Int),v5 = .int .i64 x5_1 ∧ Aside0 (laws_eqAnswerS.l0 kq l0 l1 x5_1 = some r) ∧ Aside0 (kq ≤ k) ∧ Aside0 (Below w.heap.size w w'))
  case atStart => exact ⟨(0),(by first | rfl | (simp; done) | (simp [*]; done)),H',⟨Nat.le_refl _⟩,⟨bA⟩⟩
  case round =>
   clear H'
   try clear c1
   try clear p2
   try clear c3
   try clear c3b0
   try clear c3b1
   try clear c3b2
   obtain ⟨x5_1,rfl,HA,HK1,HB⟩ := hrel
   cases gk with
   | zero => exact absurd HA.out (by simp [laws_eqAnswerS.l0])
   | succ k1 =>
    have H := HA.out
    clear HA
    simp only [laws_eqAnswerS.l0] at H
    by_cases c4 : x5_1 < (l0.length : Int)
    ·rw [if_pos c4] at H
     have c4b0 : decide (x5_1 < (l0.length : Int)) = true := decide_eq_true c4
     clear c4
     by_cases c5 : 0 ≤ x5_1
     ·rw [if_pos c5] at H
      have c5b0 : decide (0 ≤ x5_1) = true := decide_eq_true c5
      clear c5
      by_cases c6 : x5_1 < (l1.length : Int)
      ·rw [if_pos c6] at H
       have c6b0 : decide (x5_1 < (l1.length : Int)) = true := decide_eq_true c6
       clear c6
       replace H := Option.bind_eq_some_iff.mp H
       obtain ⟨t279,A70,H⟩ := H
       try dsimp only at H
       have A7 := Aside0.mk A70
       clear A70
       by_cases c8 : t279 = true
       ·subst c8
        rw [if_pos rfl] at H
        have H' := Aside0.mk H
        clear H
        try go_wp2
        replace HB := Aside0.mk (below_drew1 HB.out)
        have p277 : 0 ≤ (x5_1 : Int) := od
        have q277 : x5_1 < (l0.length : Int) := od
        obtain ⟨ad277,e277,hx277_0,hx277_1,hx277_2,hx277_3,hx277_4,hx277_5,hx277_6,hx277_7,hx277_8,hx277_9⟩ := at_T77 HR0.out x5_1 p277 q277
        have hw277_9 := hx277_9
        have hw277_8 := hx277_8
        have hw277_7 := hx277_7
        have hw277_6 := hx277_6
        have hw277_5 := hx277_5
        have hw277_4 := hx277_4
        have hw277_3 := hx277_3
        have hw277_2 := hx277_2
        have hw277_1 := hx277_1
        have hw277_0 := hx277_0
        cases e277
        replace hx277_0 := cb HB.out hx277_0
        replace hx277_1 := cb HB.out hx277_1
        replace hx277_2 := cb HB.out hx277_2
        replace hx277_3 := cb HB.out hx277_3
        replace hx277_4 := cb HB.out hx277_4
        replace hx277_5 := cb HB.out hx277_5
        replace hx277_6 := cb HB.out hx277_6
        replace hx277_7 := cb HB.out hx277_7
        replace hx277_8 := cb HB.out hx277_8
        replace hx277_9 := cb HB.out hx277_9
        replace p277 := eq_true p277
        replace q277 := eq_true q277
        have p278 : 0 ≤ (x5_1 : Int) := od
        have q278 : x5_1 < (l1.length : Int) := od
        obtain ⟨ad278,e278,hx278_0,hx278_1,hx278_2,hx278_3,hx278_4,hx278_5,hx278_6,hx278_7,hx278_8,hx278_9⟩ := at_T77 HR1.out x5_1 p278 q278
        have hw278_9 := hx278_9
        have hw278_8 := hx278_8
        have hw278_7 := hx278_7
        have hw278_6 := hx278_6
        have hw278_5 := hx278_5
        have hw278_4 := hx278_4
        have hw278_3 := hx278_3
        have hw278_2 := hx278_2
        have hw278_1 := hx278_1
        have hw278_0 := hx278_0
        cases e278
        replace hx278_0 := cb HB.out hx278_0
        replace hx278_1 := cb HB.out hx278_1
        replace hx278_2 := cb HB.out hx278_2
        replace hx278_3 := cb HB.out hx278_3
        replace hx278_4 := cb HB.out hx278_4
        replace hx278_5 := cb HB.out hx278_5
        replace hx278_6 := cb HB.out hx278_6
        replace hx278_7 := cb HB.out hx278_7
        replace hx278_8 := cb HB.out hx278_8
        replace hx278_9 := cb HB.out hx278_9
        replace p278 := eq_true p278
        replace q278 := eq_true q278
        refine start_ (n:=10) (S:=fun w' => w'.cell? (ad277.add ((x5_1).toNat * 10)) = some (.int .i64 ((rd_T77 l0 x5_1).f0)) ∧ w'.cell? ⟨(ad277.add ((x5_1).toNat * 10)).block,(ad277.add ((x5_1).toNat * 10)).off + 1,none⟩ = some (.int .i64 ((rd_T77 l0 x5_1).f1)) ∧ w'.cell? ⟨(ad277.add ((x5_1).toNat * 10)).block,(ad277.add ((x5_1).toNat * 10)).off + 2,none⟩ = some (.int .i64 ((rd_T77 l0 x5_1).f2)) ∧ w'.cell? ⟨(ad277.add ((x5_1).toNat * 10)).block,(ad277.add ((x5_1).toNat * 10)).off + 3,none⟩ = some (.int .i64 ((rd_T77 l0 x5_1).f3)) ∧ w'.cell? ⟨(ad277.add ((x5_1).toNat * 10)).block,(ad277.add ((x5_1).toNat * 10)).off + 4,none⟩ = some (.int .i64 ((rd_T77 l0 x5_1).f4.f0)) ∧ w'.cell? ⟨(ad277.add ((x5_1).toNat * 10)).block,(ad277.add ((x5_1).toNat * 10)).off + 5,none⟩ = some (.int .i64 ((rd_T77 l0 x5_1).f4.f1)) ∧ w'.cell? ⟨(ad277.add ((x5_1).toNat * 10)).block,(ad277.add ((x5_1).toNat * 10)).off + 6,none⟩ = some (.int .i64 ((rd_T77 l0 x5_1).f4.f2)) ∧ w'.cell? ⟨(ad277.add ((x5_1).toNat * 10)).block,(ad277.add ((x5_1).toNat * 10)).off + 7,none⟩ = some (.int .i64 ((rd_T77 l0 x5_1).f4.f3)) ∧ w'.cell? ⟨(ad277.add ((x5_1).toNat * 10)).block,(ad277.add ((x5_1).toNat * 10)).off + 8,none⟩ = some (.int .i64 ((rd_T77 l0 x5_1).f4.f4)) ∧ w'.cell? ⟨(ad277.add ((x5_1).toNat * 10)).block,(ad277.add ((x5_1).toNat * 10)).off + 9,none⟩ = some (.int .i64 ((rd_T77 l0 x5_1).f4.f5)) ∧ w'.cell? (ad278.add ((x5_1).toNat * 10)) = some (.int .i64 ((rd_T77 l1 x5_1).f0)) ∧ w'.cell? ⟨(ad278.add ((x5_1).toNat * 10)).block,(ad278.add ((x5_1).toNat * 10)).off + 1,none⟩ = some (.int .i64 ((rd_T77 l1 x5_1).f1)) ∧ w'.cell? ⟨(ad278.add ((x5_1).toNat * 10)).block,(ad278.add ((x5_1).toNat * 10)).off + 2,none⟩ = some (.int .i64 ((rd_T77 l1 x5_1).f2)) ∧ w'.cell? ⟨(ad278.add ((x5_1).toNat * 10)).block,(ad278.add ((x5_1).toNat * 10)).off + 3,none⟩ = some (.int .i64 ((rd_T77 l1 x5_1).f3)) ∧ w'.cell? ⟨(ad278.add ((x5_1).toNat * 10)).block,(ad278.add ((x5_1).toNat * 10)).off + 4,none⟩ = some (.int .i64 ((rd_T77 l1 x5_1).f4.f0)) ∧ w'.cell? ⟨(ad278.add ((x5_1).toNat * 10)).block,(ad278.add ((x5_1).toNat * 10)).off + 5,none⟩ = some (.int .i64 ((rd_T77 l1 x5_1).f4.f1)) ∧ w'.cell? ⟨(ad278.add ((x5_1).toNat * 10)).block,(ad278.add ((x5_1).toNat * 10)).off + 6,none⟩ = some (.int .i64 ((rd_T77 l1 x5_1).f4.f2)) ∧ w'.cell? ⟨(ad278.add ((x5_1).toNat * 10)).block,(ad278.add ((x5_1).toNat * 10)).off + 7,none⟩ = some (.int .i64 ((rd_T77 l1 x5_1).f4.f3)) ∧ w'.cell? ⟨(ad278.add ((x5_1).toNat * 10)).block,(ad278.add ((x5_1).toNat * 10)).off + 8,none⟩ = some (.int .i64 ((rd_T77 l1 x5_1).f4.f4)) ∧ w'.cell? ⟨(ad278.add ((x5_1).toNat * 10)).block,(ad278.add ((x5_1).toNat * 10)).off + 9,none⟩ = some (.int .i64 ((rd_T77 l1 x5_1).f4.f5))) (ds := []) (bm 10 0) (by kernel_rfl) rfl rfl ⟨(cb HB.out hw277_0),(cb HB.out hw277_1),(cb HB.out hw277_2),(cb HB.out hw277_3),(cb HB.out hw277_4),(cb HB.out hw277_5),(cb HB.out hw277_6),(cb HB.out hw277_7),(cb HB.out hw277_8),(cb HB.out hw277_9),(cb HB.out hw278_0),(cb HB.out hw278_1),(cb HB.out hw278_2),(cb HB.out hw278_3),(cb HB.out hw278_4),(cb HB.out hw278_5),(cb HB.out hw278_6),(cb HB.out hw278_7),(cb HB.out hw278_8),(cb HB.out hw278_9)⟩ (fun hHeld => ?_); refine with_tabW laws_eqAnswerS.tab6 laws_eqAnswerS.bits6 (fun HT_ HW_ => ?_)
        generalize wr.drew = w9 at HB hx277_0 hx277_1 hx277_2 hx277_3 hx277_4 hx277_5 hx277_6 hx277_7 hx277_8 hx277_9 hx278_0 hx278_1 hx278_2 hx278_3 hx278_4 hx278_5 hx278_6 hx278_7 hx278_8 hx278_9 hHeld ⊢
        refine pV_ 0 17 (bm 10 1) HT_.out ?_
        refine pV_ 1 18 (bm 10 3) HT_.out ?_
        refine pV_ 2 19 (bm 10 7) HT_.out ?_
        refine pV_ 4 21 (bm 10 23) HT_.out ?_
        refine pV_ 5 22 (bm 10 55) HT_.out ?_
        refine pV_ 6 23 (bm 10 119) HT_.out ?_
        refine tk 3 20 (bm 10 127) HT_.out HW_.out hHeld ?_
        refine tk 7 24 (bm 10 255) HT_.out HW_.out hHeld ?_
        refine one_ (i:=8) (N:=some 25) (bm 10 511) rfl rfl (one_of HT_.out (by kernel_rfl)) (by decide) (fun K hK => ?_)
        refine goes_ Try.func39 (by kernel_rfl) rfl #[.agg #[.int .i64 ((rd_T77 l0 x5_1).f0),.int .i64 ((rd_T77 l0 x5_1).f1),.int .i64 ((rd_T77 l0 x5_1).f2),.int .i64 ((rd_T77 l0 x5_1).f3),.int .i64 ((rd_T77 l0 x5_1).f4.f0),.int .i64 ((rd_T77 l0 x5_1).f4.f1),.int .i64 ((rd_T77 l0 x5_1).f4.f2),.int .i64 ((rd_T77 l0 x5_1).f4.f3),.int .i64 ((rd_T77 l0 x5_1).f4.f4),.int .i64 ((rd_T77 l0 x5_1).f4.f5)],.agg #[.int .i64 ((rd_T77 l1 x5_1).f0),.int .i64 ((rd_T77 l1 x5_1).f1),.int .i64 ((rd_T77 l1 x5_1).f2),.int .i64 ((rd_T77 l1 x5_1).f3),.int .i64 ((rd_T77 l1 x5_1).f4.f0),.int .i64 ((rd_T77 l1 x5_1).f4.f1),.int .i64 ((rd_T77 l1 x5_1).f4.f2),.int .i64 ((rd_T77 l1 x5_1).f4.f3),.int .i64 ((rd_T77 l1 x5_1).f4.f4),.int .i64 ((rd_T77 l1 x5_1).f4.f5)]] (by rfl) rfl rfl mA ?_
        with_reducible refine (laws_eqAnswer.calls ((rd_T77 l0 x5_1).f0) ((rd_T77 l0 x5_1).f1) ((rd_T77 l0 x5_1).f2) ((rd_T77 l0 x5_1).f3) ((rd_T77 l0 x5_1).f4.f0) ((rd_T77 l0 x5_1).f4.f1) ((rd_T77 l0 x5_1).f4.f2) ((rd_T77 l0 x5_1).f4.f3) ((rd_T77 l0 x5_1).f4.f4) ((rd_T77 l0 x5_1).f4.f5) ((rd_T77 l1 x5_1).f0) ((rd_T77 l1 x5_1).f1) ((rd_T77 l1 x5_1).f2) ((rd_T77 l1 x5_1).f3) ((rd_T77 l1 x5_1).f4.f0) ((rd_T77 l1 x5_1).f4.f1) ((rd_T77 l1 x5_1).f4.f2) ((rd_T77 l1 x5_1).f4.f3) ((rd_T77 l1 x5_1).f4.f4) ((rd_T77 l1 x5_1).f4.f5) true _ A7.out).mono ?_
        rintro e w10 ⟨rfl,hb⟩
        refine ⟨_,rfl,?_⟩
        replace HB := bsA hb
        clear hb
        refine hK.out _ _ ⟨(cb HB.out hw277_0),(cb HB.out hw277_1),(cb HB.out hw277_2),(cb HB.out hw277_3),(cb HB.out hw277_4),(cb HB.out hw277_5),(cb HB.out hw277_6),(cb HB.out hw277_7),(cb HB.out hw277_8),(cb HB.out hw277_9),(cb HB.out hw278_0),(cb HB.out hw278_1),(cb HB.out hw278_2),(cb HB.out hw278_3),(cb HB.out hw278_4),(cb HB.out hw278_5),(cb HB.out hw278_6),(cb HB.out hw278_7),(cb HB.out hw278_8),(cb HB.out hw278_9)⟩ (fun hHeld => ?_)
        clear hK K
        refine nw 25 ?_
        refine pV_ 9 26 (bm 10 1023) HT_.out ?_
        refine done_ (done_of HT_.out (by kernel_rfl)) ?_
        try go_wp2
        go_roundg k1
        case measure => have := HK1.out; omega
        case rel => exact ⟨(wrap64 (x5_1 + 1)),(by first | rfl | (simp; done) | (simp [*]; done)),H',⟨by have := HK1.out; omega⟩,⟨bA⟩⟩
       ·replace c8 := Bool.eq_false_iff.mpr c8
        subst c8
        rw [if_neg (show ¬ (false = true) by decide)] at H
        obtain rfl := Option.some.inj H
        try go_wp2
        replace HB := Aside0.mk (below_drew1 HB.out)
        have p277 : 0 ≤ (x5_1 : Int) := od
        have q277 : x5_1 < (l0.length : Int) := od
        obtain ⟨ad277,e277,hx277_0,hx277_1,hx277_2,hx277_3,hx277_4,hx277_5,hx277_6,hx277_7,hx277_8,hx277_9⟩ := at_T77 HR0.out x5_1 p277 q277
        have hw277_9 := hx277_9
        have hw277_8 := hx277_8
        have hw277_7 := hx277_7
        have hw277_6 := hx277_6
        have hw277_5 := hx277_5
        have hw277_4 := hx277_4
        have hw277_3 := hx277_3
        have hw277_2 := hx277_2
        have hw277_1 := hx277_1
        have hw277_0 := hx277_0
        cases e277
        replace hx277_0 := cb HB.out hx277_0
        replace hx277_1 := cb HB.out hx277_1
        replace hx277_2 := cb HB.out hx277_2
        replace hx277_3 := cb HB.out hx277_3
        replace hx277_4 := cb HB.out hx277_4
        replace hx277_5 := cb HB.out hx277_5
        replace hx277_6 := cb HB.out hx277_6
        replace hx277_7 := cb HB.out hx277_7
        replace hx277_8 := cb HB.out hx277_8
        replace hx277_9 := cb HB.out hx277_9
        replace p277 := eq_true p277
        replace q277 := eq_true q277
        have p278 : 0 ≤ (x5_1 : Int) := od
        have q278 : x5_1 < (l1.length : Int) := od
        obtain ⟨ad278,e278,hx278_0,hx278_1,hx278_2,hx278_3,hx278_4,hx278_5,hx278_6,hx278_7,hx278_8,hx278_9⟩ := at_T77 HR1.out x5_1 p278 q278
        have hw278_9 := hx278_9
        have hw278_8 := hx278_8
        have hw278_7 := hx278_7
        have hw278_6 := hx278_6
        have hw278_5 := hx278_5
        have hw278_4 := hx278_4
        have hw278_3 := hx278_3
        have hw278_2 := hx278_2
        have hw278_1 := hx278_1
        have hw278_0 := hx278_0
        cases e278
        replace hx278_0 := cb HB.out hx278_0
        replace hx278_1 := cb HB.out hx278_1
        replace hx278_2 := cb HB.out hx278_2
        replace hx278_3 := cb HB.out hx278_3
        replace hx278_4 := cb HB.out hx278_4
        replace hx278_5 := cb HB.out hx278_5
        replace hx278_6 := cb HB.out hx278_6
        replace hx278_7 := cb HB.out hx278_7
        replace hx278_8 := cb HB.out hx278_8
        replace hx278_9 := cb HB.out hx278_9
        replace p278 := eq_true p278
        replace q278 := eq_true q278
        refine start_ (n:=10) (S:=fun w' => w'.cell? (ad277.add ((x5_1).toNat * 10)) = some (.int .i64 ((rd_T77 l0 x5_1).f0)) ∧ w'.cell? ⟨(ad277.add ((x5_1).toNat * 10)).block,(ad277.add ((x5_1).toNat * 10)).off + 1,none⟩ = some (.int .i64 ((rd_T77 l0 x5_1).f1)) ∧ w'.cell? ⟨(ad277.add ((x5_1).toNat * 10)).block,(ad277.add ((x5_1).toNat * 10)).off + 2,none⟩ = some (.int .i64 ((rd_T77 l0 x5_1).f2)) ∧ w'.cell? ⟨(ad277.add ((x5_1).toNat * 10)).block,(ad277.add ((x5_1).toNat * 10)).off + 3,none⟩ = some (.int .i64 ((rd_T77 l0 x5_1).f3)) ∧ w'.cell? ⟨(ad277.add ((x5_1).toNat * 10)).block,(ad277.add ((x5_1).toNat * 10)).off + 4,none⟩ = some (.int .i64 ((rd_T77 l0 x5_1).f4.f0)) ∧ w'.cell? ⟨(ad277.add ((x5_1).toNat * 10)).block,(ad277.add ((x5_1).toNat * 10)).off + 5,none⟩ = some (.int .i64 ((rd_T77 l0 x5_1).f4.f1)) ∧ w'.cell? ⟨(ad277.add ((x5_1).toNat * 10)).block,(ad277.add ((x5_1).toNat * 10)).off + 6,none⟩ = some (.int .i64 ((rd_T77 l0 x5_1).f4.f2)) ∧ w'.cell? ⟨(ad277.add ((x5_1).toNat * 10)).block,(ad277.add ((x5_1).toNat * 10)).off + 7,none⟩ = some (.int .i64 ((rd_T77 l0 x5_1).f4.f3)) ∧ w'.cell? ⟨(ad277.add ((x5_1).toNat * 10)).block,(ad277.add ((x5_1).toNat * 10)).off + 8,none⟩ = some (.int .i64 ((rd_T77 l0 x5_1).f4.f4)) ∧ w'.cell? ⟨(ad277.add ((x5_1).toNat * 10)).block,(ad277.add ((x5_1).toNat * 10)).off + 9,none⟩ = some (.int .i64 ((rd_T77 l0 x5_1).f4.f5)) ∧ w'.cell? (ad278.add ((x5_1).toNat * 10)) = some (.int .i64 ((rd_T77 l1 x5_1).f0)) ∧ w'.cell? ⟨(ad278.add ((x5_1).toNat * 10)).block,(ad278.add ((x5_1).toNat * 10)).off + 1,none⟩ = some (.int .i64 ((rd_T77 l1 x5_1).f1)) ∧ w'.cell? ⟨(ad278.add ((x5_1).toNat * 10)).block,(ad278.add ((x5_1).toNat * 10)).off + 2,none⟩ = some (.int .i64 ((rd_T77 l1 x5_1).f2)) ∧ w'.cell? ⟨(ad278.add ((x5_1).toNat * 10)).block,(ad278.add ((x5_1).toNat * 10)).off + 3,none⟩ = some (.int .i64 ((rd_T77 l1 x5_1).f3)) ∧ w'.cell? ⟨(ad278.add ((x5_1).toNat * 10)).block,(ad278.add ((x5_1).toNat * 10)).off + 4,none⟩ = some (.int .i64 ((rd_T77 l1 x5_1).f4.f0)) ∧ w'.cell? ⟨(ad278.add ((x5_1).toNat * 10)).block,(ad278.add ((x5_1).toNat * 10)).off + 5,none⟩ = some (.int .i64 ((rd_T77 l1 x5_1).f4.f1)) ∧ w'.cell? ⟨(ad278.add ((x5_1).toNat * 10)).block,(ad278.add ((x5_1).toNat * 10)).off + 6,none⟩ = some (.int .i64 ((rd_T77 l1 x5_1).f4.f2)) ∧ w'.cell? ⟨(ad278.add ((x5_1).toNat * 10)).block,(ad278.add ((x5_1).toNat * 10)).off + 7,none⟩ = some (.int .i64 ((rd_T77 l1 x5_1).f4.f3)) ∧ w'.cell? ⟨(ad278.add ((x5_1).toNat * 10)).block,(ad278.add ((x5_1).toNat * 10)).off + 8,none⟩ = some (.int .i64 ((rd_T77 l1 x5_1).f4.f4)) ∧ w'.cell? ⟨(ad278.add ((x5_1).toNat * 10)).block,(ad278.add ((x5_1).toNat * 10)).off + 9,none⟩ = some (.int .i64 ((rd_T77 l1 x5_1).f4.f5))) (ds := []) (bm 10 0) (by kernel_rfl) rfl rfl ⟨(cb HB.out hw277_0),(cb HB.out hw277_1),(cb HB.out hw277_2),(cb HB.out hw277_3),(cb HB.out hw277_4),(cb HB.out hw277_5),(cb HB.out hw277_6),(cb HB.out hw277_7),(cb HB.out hw277_8),(cb HB.out hw277_9),(cb HB.out hw278_0),(cb HB.out hw278_1),(cb HB.out hw278_2),(cb HB.out hw278_3),(cb HB.out hw278_4),(cb HB.out hw278_5),(cb HB.out hw278_6),(cb HB.out hw278_7),(cb HB.out hw278_8),(cb HB.out hw278_9)⟩ (fun hHeld => ?_); refine with_tabW laws_eqAnswerS.tab6 laws_eqAnswerS.bits6 (fun HT_ HW_ => ?_)
        generalize wr.drew = w11 at HB hx277_0 hx277_1 hx277_2 hx277_3 hx277_4 hx277_5 hx277_6 hx277_7 hx277_8 hx277_9 hx278_0 hx278_1 hx278_2 hx278_3 hx278_4 hx278_5 hx278_6 hx278_7 hx278_8 hx278_9 hHeld ⊢
        refine pV_ 0 17 (bm 10 1) HT_.out ?_
        refine pV_ 1 18 (bm 10 3) HT_.out ?_
        refine pV_ 2 19 (bm 10 7) HT_.out ?_
        refine pV_ 4 21 (bm 10 23) HT_.out ?_
        refine pV_ 5 22 (bm 10 55) HT_.out ?_
        refine pV_ 6 23 (bm 10 119) HT_.out ?_
        refine tk 3 20 (bm 10 127) HT_.out HW_.out hHeld ?_
        refine tk 7 24 (bm 10 255) HT_.out HW_.out hHeld ?_
        refine one_ (i:=8) (N:=some 25) (bm 10 511) rfl rfl (one_of HT_.out (by kernel_rfl)) (by decide) (fun K hK => ?_)
        refine goes_ Try.func39 (by kernel_rfl) rfl #[.agg #[.int .i64 ((rd_T77 l0 x5_1).f0),.int .i64 ((rd_T77 l0 x5_1).f1),.int .i64 ((rd_T77 l0 x5_1).f2),.int .i64 ((rd_T77 l0 x5_1).f3),.int .i64 ((rd_T77 l0 x5_1).f4.f0),.int .i64 ((rd_T77 l0 x5_1).f4.f1),.int .i64 ((rd_T77 l0 x5_1).f4.f2),.int .i64 ((rd_T77 l0 x5_1).f4.f3),.int .i64 ((rd_T77 l0 x5_1).f4.f4),.int .i64 ((rd_T77 l0 x5_1).f4.f5)],.agg #[.int .i64 ((rd_T77 l1 x5_1).f0),.int .i64 ((rd_T77 l1 x5_1).f1),.int .i64 ((rd_T77 l1 x5_1).f2),.int .i64 ((rd_T77 l1 x5_1).f3),.int .i64 ((rd_T77 l1 x5_1).f4.f0),.int .i64 ((rd_T77 l1 x5_1).f4.f1),.int .i64 ((rd_T77 l1 x5_1).f4.f2),.int .i64 ((rd_T77 l1 x5_1).f4.f3),.int .i64 ((rd_T77 l1 x5_1).f4.f4),.int .i64 ((rd_T77 l1 x5_1).f4.f5)]] (by rfl) rfl rfl mA ?_
        with_reducible refine (laws_eqAnswer.calls ((rd_T77 l0 x5_1).f0) ((rd_T77 l0 x5_1).f1) ((rd_T77 l0 x5_1).f2) ((rd_T77 l0 x5_1).f3) ((rd_T77 l0 x5_1).f4.f0) ((rd_T77 l0 x5_1).f4.f1) ((rd_T77 l0 x5_1).f4.f2) ((rd_T77 l0 x5_1).f4.f3) ((rd_T77 l0 x5_1).f4.f4) ((rd_T77 l0 x5_1).f4.f5) ((rd_T77 l1 x5_1).f0) ((rd_T77 l1 x5_1).f1) ((rd_T77 l1 x5_1).f2) ((rd_T77 l1 x5_1).f3) ((rd_T77 l1 x5_1).f4.f0) ((rd_T77 l1 x5_1).f4.f1) ((rd_T77 l1 x5_1).f4.f2) ((rd_T77 l1 x5_1).f4.f3) ((rd_T77 l1 x5_1).f4.f4) ((rd_T77 l1 x5_1).f4.f5) false _ A7.out).mono ?_
        rintro e w12 ⟨rfl,hb⟩
        refine ⟨_,rfl,?_⟩
        replace HB := bsA hb
        clear hb
        refine hK.out _ _ ⟨(cb HB.out hw277_0),(cb HB.out hw277_1),(cb HB.out hw277_2),(cb HB.out hw277_3),(cb HB.out hw277_4),(cb HB.out hw277_5),(cb HB.out hw277_6),(cb HB.out hw277_7),(cb HB.out hw277_8),(cb HB.out hw277_9),(cb HB.out hw278_0),(cb HB.out hw278_1),(cb HB.out hw278_2),(cb HB.out hw278_3),(cb HB.out hw278_4),(cb HB.out hw278_5),(cb HB.out hw278_6),(cb HB.out hw278_7),(cb HB.out hw278_8),(cb HB.out hw278_9)⟩ (fun hHeld => ?_)
        clear hK K
        refine nw 25 ?_
        refine pV_ 9 26 (bm 10 1023) HT_.out ?_
        refine done_ (done_of HT_.out (by kernel_rfl)) ?_
        try go_wp2
        go_ret
        exact ⟨by first | rfl | (simp only [i64_w,i32_w] <;> rfl) | (simp [errW_none,errW_some] <;> rfl) | (simp [*,errW_none,errW_some] <;> rfl),bA⟩
      ·rw [if_neg c6] at H
       exact absurd H (by simp)
     ·rw [if_neg c5] at H
      exact absurd H (by simp)
    ·rw [if_neg c4] at H
     have c4b0 : decide (x5_1 < (l0.length : Int)) = false := decide_eq_false c4
     clear c4
     obtain rfl := Option.some.inj H
     go_wp2
     go_ret
     exact ⟨by first | rfl | (simp only [i64_w,i32_w] <;> rfl) | (simp [errW_none,errW_some] <;> rfl) | (simp [*,errW_none,errW_some] <;> rfl),bA⟩
 ·rw [if_neg c3] at H
  have c3b0 : ((l0.length : Int) == (l1.length : Int)) = false := beq_eq_false_iff_ne.mpr c3
  have c3b1 : ((l0.length : Int) != (l1.length : Int)) = true := bne_iff_ne.mpr c3
  have c3b2 : (l0.length == l1.length) = false := by first | simpa using c3 | (simp at c3 ⊢; omega)
  obtain rfl := Option.some.inj H
  go_enter Try.func17,Try.ntmps17
  go_wp2
  go_ret
  exact ⟨by first | rfl | (simp only [i64_w,i32_w] <;> rfl) | (simp [errW_none,errW_some] <;> rfl) | (simp [*,errW_none,errW_some] <;> rfl),bA⟩

/-! ### laws_eqFleet: function 6 -/
def laws_eqFleet.f (k : Nat) (l0_0 : List (S84)) (a0_1 : Int) (a0_2 : Int) (a0_3 : Int) (a0_4 : Int) (a0_5 : Int) (a0_6 : Int) (a0_7 : Int) (a0_8 : Int) (a0_9 : Int) (l0_10 : List (S44)) (l0_11 : List (S46)) (l0_12 : List (S48)) (l0_13 : List (S74)) (l0_14 : List (S77)) (l1_0 : List (S84)) (a1_1 : Int) (a1_2 : Int) (a1_3 : Int) (a1_4 : Int) (a1_5 : Int) (a1_6 : Int) (a1_7 : Int) (a1_8 : Int) (a1_9 : Int) (l1_10 : List (S44)) (l1_11 : List (S46)) (l1_12 : List (S48)) (l1_13 : List (S74)) (l1_14 : List (S77)) : Option (Bool) := (laws_eqStore.f k l0_0 a0_1 l1_0 a1_1).bind fun t282 => (if t282 = true then (if a0_2 = a1_2 then ((laws_eqIntA7.f k a0_3 a0_4 a0_5 a0_6 a0_7 a0_8 a0_9 a1_3 a1_4 a1_5 a1_6 a1_7 a1_8 a1_9).bind fun t283 => (if t283 = true then ((laws_eqWorkerS.f k l0_10 l1_10).bind fun t284 => (if t284 = true then ((laws_eqIngesterS.f k l0_11 l1_11).bind fun t285 => (if t285 = true then ((laws_eqReaderS.f k l0_12 l1_12).bind fun t286 => (if t286 = true then ((laws_eqSampleS.f k l0_13 l1_13).bind fun t287 => (if t287 = true then ((laws_eqAnswerS.f k l0_14 l1_14).bind fun t288 => (if t288 = true then (some true) else (some false))) else (some false))) else (some false))) else (some false))) else (some false))) else (some false))) else (some false)) else (some false))
theorem laws_eqFleet.mono : ∀ a0 a1 a2 a3 a4 a5 a6 a7 a8 a9 a10 a11 a12 a13 a14 a15 a16 a17 a18 a19 a20 a21 a22 a23 a24 a25 a26 a27 a28 a29 k,LeO (laws_eqFleet.f k a0 a1 a2 a3 a4 a5 a6 a7 a8 a9 a10 a11 a12 a13 a14 a15 a16 a17 a18 a19 a20 a21 a22 a23 a24 a25 a26 a27 a28 a29) (laws_eqFleet.f (k + 1) a0 a1 a2 a3 a4 a5 a6 a7 a8 a9 a10 a11 a12 a13 a14 a15 a16 a17 a18 a19 a20 a21 a22 a23 a24 a25 a26 a27 a28 a29) := by
 intro a0 a1 a2 a3 a4 a5 a6 a7 a8 a9 a10 a11 a12 a13 a14 a15 a16 a17 a18 a19 a20 a21 a22 a23 a24 a25 a26 a27 a28 a29 k
 unfold laws_eqFleet.f
 repeat' first
 | (with_reducible first | exact laws_eqAnswerS.mono .. | exact laws_eqIngesterS.mono .. | exact laws_eqIntA7.mono .. | exact laws_eqReaderS.mono .. | exact laws_eqSampleS.mono .. | exact laws_eqStore.mono .. | exact laws_eqWorkerS.mono .. | exact LeO.refl _ | exact LeO.none _ | refine LeO.ite ?_ ?_ | refine LeO.bind ?_ (fun _ => ?_))
 | exact LeO.none _ | refine LeO.ite ?_ ?_ | refine LeO.bind ?_ (fun _ => ?_)
set_option maxHeartbeats 8000000 in
set_option maxRecDepth 100000 in
theorem laws_eqFleet.calls (k : Nat) (A0_0 : Option Addr) (c0_0 : Nat) (l0_0 : List (S84)) (a0_1 : Int) (a0_2 : Int) (a0_3 : Int) (a0_4 : Int) (a0_5 : Int) (a0_6 : Int) (a0_7 : Int) (a0_8 : Int) (a0_9 : Int) (A0_10 : Option Addr) (c0_10 : Nat) (l0_10 : List (S44)) (A0_11 : Option Addr) (c0_11 : Nat) (l0_11 : List (S46)) (A0_12 : Option Addr) (c0_12 : Nat) (l0_12 : List (S48)) (A0_13 : Option Addr) (c0_13 : Nat) (l0_13 : List (S74)) (A0_14 : Option Addr) (c0_14 : Nat) (l0_14 : List (S77)) (A1_0 : Option Addr) (c1_0 : Nat) (l1_0 : List (S84)) (a1_1 : Int) (a1_2 : Int) (a1_3 : Int) (a1_4 : Int) (a1_5 : Int) (a1_6 : Int) (a1_7 : Int) (a1_8 : Int) (a1_9 : Int) (A1_10 : Option Addr) (c1_10 : Nat) (l1_10 : List (S44)) (A1_11 : Option Addr) (c1_11 : Nat) (l1_11 : List (S46)) (A1_12 : Option Addr) (c1_12 : Nat) (l1_12 : List (S48)) (A1_13 : Option Addr) (c1_13 : Nat) (l1_13 : List (S74)) (A1_14 : Option Addr) (c1_14 : Nat) (l1_14 : List (S77)) (r : Bool) (w : World) (hr0_0 : Kd.C k84 w A0_0 l0_0.length l0_0) (hc0_0 : l0_0.length ≤ c0_0) (hr0_10 : Kd.C k44 w A0_10 l0_10.length l0_10) (hc0_10 : l0_10.length ≤ c0_10) (hr0_11 : Kd.C k46 w A0_11 l0_11.length l0_11) (hc0_11 : l0_11.length ≤ c0_11) (hr0_12 : Kd.C k48 w A0_12 l0_12.length l0_12) (hc0_12 : l0_12.length ≤ c0_12) (hr0_13 : Kd.C k74 w A0_13 l0_13.length l0_13) (hc0_13 : l0_13.length ≤ c0_13) (hr0_14 : Kd.C k77 w A0_14 l0_14.length l0_14) (hc0_14 : l0_14.length ≤ c0_14) (hr1_0 : Kd.C k84 w A1_0 l1_0.length l1_0) (hc1_0 : l1_0.length ≤ c1_0) (hr1_10 : Kd.C k44 w A1_10 l1_10.length l1_10) (hc1_10 : l1_10.length ≤ c1_10) (hr1_11 : Kd.C k46 w A1_11 l1_11.length l1_11) (hc1_11 : l1_11.length ≤ c1_11) (hr1_12 : Kd.C k48 w A1_12 l1_12.length l1_12) (hc1_12 : l1_12.length ≤ c1_12) (hr1_13 : Kd.C k74 w A1_13 l1_13.length l1_13) (hc1_13 : l1_13.length ≤ c1_13) (hr1_14 : Kd.C k77 w A1_14 l1_14.length l1_14) (hc1_14 : l1_14.length ≤ c1_14) (h : laws_eqFleet.f k l0_0 a0_1 a0_2 a0_3 a0_4 a0_5 a0_6 a0_7 a0_8 a0_9 l0_10 l0_11 l0_12 l0_13 l0_14 l1_0 a1_1 a1_2 a1_3 a1_4 a1_5 a1_6 a1_7 a1_8 a1_9 l1_10 l1_11 l1_12 l1_13 l1_14 = some r) :
  Calls Try.prog 6 #[.agg #[.slice A0_0 l0_0.length c0_0,.int .i64 a0_1,.int .i64 a0_2,.int .i64 a0_3,.int .i64 a0_4,.int .i64 a0_5,.int .i64 a0_6,.int .i64 a0_7,.int .i64 a0_8,.int .i64 a0_9,.slice A0_10 l0_10.length c0_10,.slice A0_11 l0_11.length c0_11,.slice A0_12 l0_12.length c0_12,.slice A0_13 l0_13.length c0_13,.slice A0_14 l0_14.length c0_14],.agg #[.slice A1_0 l1_0.length c1_0,.int .i64 a1_1,.int .i64 a1_2,.int .i64 a1_3,.int .i64 a1_4,.int .i64 a1_5,.int .i64 a1_6,.int .i64 a1_7,.int .i64 a1_8,.int .i64 a1_9,.slice A1_10 l1_10.length c1_10,.slice A1_11 l1_11.length c1_11,.slice A1_12 l1_12.length c1_12,.slice A1_13 l1_13.length c1_13,.slice A1_14 l1_14.length c1_14]] w fun e w' => e = .returned (.bool r) ∧ Below w.heap.size w w' := by
 have hu32 := Try.underlying32
 have hu24 := Try.underlying24
 have hu25 := Try.underlying25
 have HR0_0 := Aside0.mk hr0_0
 have HC0_0 := Aside0.mk hc0_0
 clear hr0_0 hc0_0
 have HR0_10 := Aside0.mk hr0_10
 have HC0_10 := Aside0.mk hc0_10
 clear hr0_10 hc0_10
 have HR0_11 := Aside0.mk hr0_11
 have HC0_11 := Aside0.mk hc0_11
 clear hr0_11 hc0_11
 have HR0_12 := Aside0.mk hr0_12
 have HC0_12 := Aside0.mk hc0_12
 clear hr0_12 hc0_12
 have HR0_13 := Aside0.mk hr0_13
 have HC0_13 := Aside0.mk hc0_13
 clear hr0_13 hc0_13
 have HR0_14 := Aside0.mk hr0_14
 have HC0_14 := Aside0.mk hc0_14
 clear hr0_14 hc0_14
 have HR1_0 := Aside0.mk hr1_0
 have HC1_0 := Aside0.mk hc1_0
 clear hr1_0 hc1_0
 have HR1_10 := Aside0.mk hr1_10
 have HC1_10 := Aside0.mk hc1_10
 clear hr1_10 hc1_10
 have HR1_11 := Aside0.mk hr1_11
 have HC1_11 := Aside0.mk hc1_11
 clear hr1_11 hc1_11
 have HR1_12 := Aside0.mk hr1_12
 have HC1_12 := Aside0.mk hc1_12
 clear hr1_12 hc1_12
 have HR1_13 := Aside0.mk hr1_13
 have HC1_13 := Aside0.mk hc1_13
 clear hr1_13 hc1_13
 have HR1_14 := Aside0.mk hr1_14
 have HC1_14 := Aside0.mk hc1_14
 clear hr1_14 hc1_14
 have HB := Aside0.mk (Below.refl w.heap.size w)
 have H : ((laws_eqStore.f k l0_0 a0_1 l1_0 a1_1).bind fun t282 => (if t282 = true then (if a0_2 = a1_2 then ((laws_eqIntA7.f k a0_3 a0_4 a0_5 a0_6 a0_7 a0_8 a0_9 a1_3 a1_4 a1_5 a1_6 a1_7 a1_8 a1_9).bind fun t283 => (if t283 = true then ((laws_eqWorkerS.f k l0_10 l1_10).bind fun t284 => (if t284 = true then ((laws_eqIngesterS.f k l0_11 l1_11).bind fun t285 => (if t285 = true then ((laws_eqReaderS.f k l0_12 l1_12).bind fun t286 => (if t286 = true then ((laws_eqSampleS.f k l0_13 l1_13).bind fun t287 => (if t287 = true then ((laws_eqAnswerS.f k l0_14 l1_14).bind fun t288 => (if t288 = true then (some true) else (some false))) else (some false))) else (some false))) else (some false))) else (some false))) else (some false))) else (some false)) else (some false))) = some r := h
 clear h
 replace H := Option.bind_eq_some_iff.mp H
 obtain ⟨t282,A30,H⟩ := H
 try dsimp only at H
 have A3 := Aside0.mk A30
 clear A30
 by_cases c4 : t282 = true
 ·subst c4
  rw [if_pos rfl] at H
  by_cases c5 : a0_2 = a1_2
  ·rw [if_pos c5] at H
   have c5b0 : (a0_2 == a1_2) = true := beq_iff_eq.mpr c5
   have c5b1 : (a0_2 != a1_2) = false := bne_eq_false_iff_eq.mpr c5
   clear c5
   replace H := Option.bind_eq_some_iff.mp H
   obtain ⟨t283,A60,H⟩ := H
   try dsimp only at H
   have A6 := Aside0.mk A60
   clear A60
   by_cases c7 : t283 = true
   ·subst c7
    rw [if_pos rfl] at H
    replace H := Option.bind_eq_some_iff.mp H
    obtain ⟨t284,A80,H⟩ := H
    try dsimp only at H
    have A8 := Aside0.mk A80
    clear A80
    by_cases c9 : t284 = true
    ·subst c9
     rw [if_pos rfl] at H
     replace H := Option.bind_eq_some_iff.mp H
     obtain ⟨t285,A100,H⟩ := H
     try dsimp only at H
     have A10 := Aside0.mk A100
     clear A100
     by_cases c11 : t285 = true
     ·subst c11
      rw [if_pos rfl] at H
      replace H := Option.bind_eq_some_iff.mp H
      obtain ⟨t286,A120,H⟩ := H
      try dsimp only at H
      have A12 := Aside0.mk A120
      clear A120
      by_cases c13 : t286 = true
      ·subst c13
       rw [if_pos rfl] at H
       replace H := Option.bind_eq_some_iff.mp H
       obtain ⟨t287,A140,H⟩ := H
       try dsimp only at H
       have A14 := Aside0.mk A140
       clear A140
       by_cases c15 : t287 = true
       ·subst c15
        rw [if_pos rfl] at H
        replace H := Option.bind_eq_some_iff.mp H
        obtain ⟨t288,A160,H⟩ := H
        try dsimp only at H
        have A16 := Aside0.mk A160
        clear A160
        by_cases c17 : t288 = true
        ·subst c17
         rw [if_pos rfl] at H
         obtain rfl := Option.some.inj H
         go_enter Try.func6,Try.ntmps6
         go_wp2_with (first | ((with_reducible refine gate_dst (N:=2) rfl ?_); refine bxe (N:=2) (cs := #[.slice A0_0 l0_0.length c0_0,.int .i64 a0_1,.int .i64 a0_2,.int .i64 a0_3,.int .i64 a0_4,.int .i64 a0_5,.int .i64 a0_6,.int .i64 a0_7,.int .i64 a0_8,.int .i64 a0_9,.slice A0_10 l0_10.length c0_10,.slice A0_11 l0_11.length c0_11,.slice A0_12 l0_12.length c0_12,.slice A0_13 l0_13.length c0_13,.slice A0_14 l0_14.length c0_14]) (t:=32) ?_; intro gb280 hg w18 hbox hb; have BK280 := Aside0.mk (hbox); have GW280 := Aside0.mk ((gw hg : w.heap.size ≤ gb280)); have GE280 := GW280; replace HB := bsA hb; clear hb hbox hg) | ((with_reducible refine gate_dst (N:=3) rfl ?_); refine bxe (N:=3) (cs := #[.slice A1_0 l1_0.length c1_0,.int .i64 a1_1,.int .i64 a1_2,.int .i64 a1_3,.int .i64 a1_4,.int .i64 a1_5,.int .i64 a1_6,.int .i64 a1_7,.int .i64 a1_8,.int .i64 a1_9,.slice A1_10 l1_10.length c1_10,.slice A1_11 l1_11.length c1_11,.slice A1_12 l1_12.length c1_12,.slice A1_13 l1_13.length c1_13,.slice A1_14 l1_14.length c1_14]) (t:=32) ?_; intro gb281 hg w19 hbox hb; have BK281 := Aside0.mk (hbox); have GW281 := Aside0.mk ((gw hg : w.heap.size ≤ gb281)); have GE281 := GW281; replace HB := bsA hb; have NB280_281 := Aside0.mk ((nl hg BK280.out)); have NB281_280 := Aside0.mk ((ng hg BK280.out)); replace BK280 := bbA BK280 hb; clear hb hbox hg; have hnb20 := NB280_281.out; have hnc20 := NB281_280.out; obtain ⟨hcz21_0,hcz21_1,hcz21_2,hcz21_3,hcz21_4,hcz21_5,hcz21_6,hcz21_7,hcz21_8,hcz21_9,hcz21_10,hcz21_11,hcz21_12,hcz21_13,hcz21_14⟩ := cl15 BK280.out; obtain ⟨hfz21_0,hfz21_1,hfz21_2,hfz21_3,hfz21_4,hfz21_5,hfz21_6,hfz21_7,hfz21_8,hfz21_9,hfz21_10,hfz21_11,hfz21_12,hfz21_13,hfz21_14⟩ := fz15 BK280.out; obtain ⟨hcz22_0,hcz22_1,hcz22_2,hcz22_3,hcz22_4,hcz22_5,hcz22_6,hcz22_7,hcz22_8,hcz22_9,hcz22_10,hcz22_11,hcz22_12,hcz22_13,hcz22_14⟩ := cl15 BK281.out; obtain ⟨hfz22_0,hfz22_1,hfz22_2,hfz22_3,hfz22_4,hfz22_5,hfz22_6,hfz22_7,hfz22_8,hfz22_9,hfz22_10,hfz22_11,hfz22_12,hfz22_13,hfz22_14⟩ := fz15 BK281.out) | ((with_reducible refine gate_callee (f:=11) rfl ?_); refine goesL_ (some 9) rfl rfl Try.func11 (by kernel_rfl) rfl #[.agg #[.slice A0_0 l0_0.length c0_0,.int .i64 a0_1],.agg #[.slice A1_0 l1_0.length c1_0,.int .i64 a1_1]] rfl mA ?_; (with_reducible refine (laws_eqStore.calls k _ _ l0_0 a0_1 _ _ l1_0 a1_1 true _ ?side1 ?side2 ?side3 ?side4 A3.out).mono ?_); (case side1 => exact sC HR0_0.out); (case side2 => exact HC0_0.out); (case side3 => exact sC HR1_0.out); (case side4 => exact HC1_0.out); rintro e w23 ⟨rfl,hb⟩; refine ⟨_,rfl,?_⟩; replace BK280 := bbA BK280 hb; replace BK281 := bbA BK281 hb; replace HB := bsA hb; clear hb; obtain ⟨hcz24_0,hcz24_1,hcz24_2,hcz24_3,hcz24_4,hcz24_5,hcz24_6,hcz24_7,hcz24_8,hcz24_9,hcz24_10,hcz24_11,hcz24_12,hcz24_13,hcz24_14⟩ := cl15 BK280.out; obtain ⟨hfz24_0,hfz24_1,hfz24_2,hfz24_3,hfz24_4,hfz24_5,hfz24_6,hfz24_7,hfz24_8,hfz24_9,hfz24_10,hfz24_11,hfz24_12,hfz24_13,hfz24_14⟩ := fz15 BK280.out; obtain ⟨hcz25_0,hcz25_1,hcz25_2,hcz25_3,hcz25_4,hcz25_5,hcz25_6,hcz25_7,hcz25_8,hcz25_9,hcz25_10,hcz25_11,hcz25_12,hcz25_13,hcz25_14⟩ := cl15 BK281.out; obtain ⟨hfz25_0,hfz25_1,hfz25_2,hfz25_3,hfz25_4,hfz25_5,hfz25_6,hfz25_7,hfz25_8,hfz25_9,hfz25_10,hfz25_11,hfz25_12,hfz25_13,hfz25_14⟩ := fz15 BK281.out) | ((with_reducible refine gate_callee (f:=12) rfl ?_); refine goesL_ (some 20) rfl rfl Try.func12 (by kernel_rfl) rfl #[.agg #[.int .i64 a0_3,.int .i64 a0_4,.int .i64 a0_5,.int .i64 a0_6,.int .i64 a0_7,.int .i64 a0_8,.int .i64 a0_9],.agg #[.int .i64 a1_3,.int .i64 a1_4,.int .i64 a1_5,.int .i64 a1_6,.int .i64 a1_7,.int .i64 a1_8,.int .i64 a1_9]] rfl mA ?_; (with_reducible refine (laws_eqIntA7.calls k a0_3 a0_4 a0_5 a0_6 a0_7 a0_8 a0_9 a1_3 a1_4 a1_5 a1_6 a1_7 a1_8 a1_9 true _ A6.out).mono ?_); rintro e w26 ⟨rfl,hb⟩; refine ⟨_,rfl,?_⟩; replace BK280 := bbA BK280 hb; replace BK281 := bbA BK281 hb; replace HB := bsA hb; clear hb; obtain ⟨hcz27_0,hcz27_1,hcz27_2,hcz27_3,hcz27_4,hcz27_5,hcz27_6,hcz27_7,hcz27_8,hcz27_9,hcz27_10,hcz27_11,hcz27_12,hcz27_13,hcz27_14⟩ := cl15 BK280.out; obtain ⟨hfz27_0,hfz27_1,hfz27_2,hfz27_3,hfz27_4,hfz27_5,hfz27_6,hfz27_7,hfz27_8,hfz27_9,hfz27_10,hfz27_11,hfz27_12,hfz27_13,hfz27_14⟩ := fz15 BK280.out; obtain ⟨hcz28_0,hcz28_1,hcz28_2,hcz28_3,hcz28_4,hcz28_5,hcz28_6,hcz28_7,hcz28_8,hcz28_9,hcz28_10,hcz28_11,hcz28_12,hcz28_13,hcz28_14⟩ := cl15 BK281.out; obtain ⟨hfz28_0,hfz28_1,hfz28_2,hfz28_3,hfz28_4,hfz28_5,hfz28_6,hfz28_7,hfz28_8,hfz28_9,hfz28_10,hfz28_11,hfz28_12,hfz28_13,hfz28_14⟩ := fz15 BK281.out) | ((with_reducible refine gate_callee (f:=13) rfl ?_); refine goesL_ (some 26) rfl rfl Try.func13 (by kernel_rfl) rfl #[.slice A0_10 l0_10.length c0_10,.slice A1_10 l1_10.length c1_10] rfl mA ?_; (with_reducible refine (laws_eqWorkerS.calls k _ _ l0_10 _ _ l1_10 true _ ?side1 ?side2 ?side3 ?side4 A8.out).mono ?_); (case side1 => exact sC HR0_10.out); (case side2 => exact HC0_10.out); (case side3 => exact sC HR1_10.out); (case side4 => exact HC1_10.out); rintro e w29 ⟨rfl,hb⟩; refine ⟨_,rfl,?_⟩; replace BK280 := bbA BK280 hb; replace BK281 := bbA BK281 hb; replace HB := bsA hb; clear hb; obtain ⟨hcz30_0,hcz30_1,hcz30_2,hcz30_3,hcz30_4,hcz30_5,hcz30_6,hcz30_7,hcz30_8,hcz30_9,hcz30_10,hcz30_11,hcz30_12,hcz30_13,hcz30_14⟩ := cl15 BK280.out; obtain ⟨hfz30_0,hfz30_1,hfz30_2,hfz30_3,hfz30_4,hfz30_5,hfz30_6,hfz30_7,hfz30_8,hfz30_9,hfz30_10,hfz30_11,hfz30_12,hfz30_13,hfz30_14⟩ := fz15 BK280.out; obtain ⟨hcz31_0,hcz31_1,hcz31_2,hcz31_3,hcz31_4,hcz31_5,hcz31_6,hcz31_7,hcz31_8,hcz31_9,hcz31_10,hcz31_11,hcz31_12,hcz31_13,hcz31_14⟩ := cl15 BK281.out; obtain ⟨hfz31_0,hfz31_1,hfz31_2,hfz31_3,hfz31_4,hfz31_5,hfz31_6,hfz31_7,hfz31_8,hfz31_9,hfz31_10,hfz31_11,hfz31_12,hfz31_13,hfz31_14⟩ := fz15 BK281.out) | ((with_reducible refine gate_callee (f:=14) rfl ?_); refine goesL_ (some 32) rfl rfl Try.func14 (by kernel_rfl) rfl #[.slice A0_11 l0_11.length c0_11,.slice A1_11 l1_11.length c1_11] rfl mA ?_; (with_reducible refine (laws_eqIngesterS.calls k _ _ l0_11 _ _ l1_11 true _ ?side1 ?side2 ?side3 ?side4 A10.out).mono ?_); (case side1 => exact sC HR0_11.out); (case side2 => exact HC0_11.out); (case side3 => exact sC HR1_11.out); (case side4 => exact HC1_11.out); rintro e w32 ⟨rfl,hb⟩; refine ⟨_,rfl,?_⟩; replace BK280 := bbA BK280 hb; replace BK281 := bbA BK281 hb; replace HB := bsA hb; clear hb; obtain ⟨hcz33_0,hcz33_1,hcz33_2,hcz33_3,hcz33_4,hcz33_5,hcz33_6,hcz33_7,hcz33_8,hcz33_9,hcz33_10,hcz33_11,hcz33_12,hcz33_13,hcz33_14⟩ := cl15 BK280.out; obtain ⟨hfz33_0,hfz33_1,hfz33_2,hfz33_3,hfz33_4,hfz33_5,hfz33_6,hfz33_7,hfz33_8,hfz33_9,hfz33_10,hfz33_11,hfz33_12,hfz33_13,hfz33_14⟩ := fz15 BK280.out; obtain ⟨hcz34_0,hcz34_1,hcz34_2,hcz34_3,hcz34_4,hcz34_5,hcz34_6,hcz34_7,hcz34_8,hcz34_9,hcz34_10,hcz34_11,hcz34_12,hcz34_13,hcz34_14⟩ := cl15 BK281.out; obtain ⟨hfz34_0,hfz34_1,hfz34_2,hfz34_3,hfz34_4,hfz34_5,hfz34_6,hfz34_7,hfz34_8,hfz34_9,hfz34_10,hfz34_11,hfz34_12,hfz34_13,hfz34_14⟩ := fz15 BK281.out) | ((with_reducible refine gate_callee (f:=15) rfl ?_); refine goesL_ (some 38) rfl rfl Try.func15 (by kernel_rfl) rfl #[.slice A0_12 l0_12.length c0_12,.slice A1_12 l1_12.length c1_12] rfl mA ?_; (with_reducible refine (laws_eqReaderS.calls k _ _ l0_12 _ _ l1_12 true _ ?side1 ?side2 ?side3 ?side4 A12.out).mono ?_); (case side1 => exact sC HR0_12.out); (case side2 => exact HC0_12.out); (case side3 => exact sC HR1_12.out); (case side4 => exact HC1_12.out); rintro e w35 ⟨rfl,hb⟩; refine ⟨_,rfl,?_⟩; replace BK280 := bbA BK280 hb; replace BK281 := bbA BK281 hb; replace HB := bsA hb; clear hb; obtain ⟨hcz36_0,hcz36_1,hcz36_2,hcz36_3,hcz36_4,hcz36_5,hcz36_6,hcz36_7,hcz36_8,hcz36_9,hcz36_10,hcz36_11,hcz36_12,hcz36_13,hcz36_14⟩ := cl15 BK280.out; obtain ⟨hfz36_0,hfz36_1,hfz36_2,hfz36_3,hfz36_4,hfz36_5,hfz36_6,hfz36_7,hfz36_8,hfz36_9,hfz36_10,hfz36_11,hfz36_12,hfz36_13,hfz36_14⟩ := fz15 BK280.out; obtain ⟨hcz37_0,hcz37_1,hcz37_2,hcz37_3,hcz37_4,hcz37_5,hcz37_6,hcz37_7,hcz37_8,hcz37_9,hcz37_10,hcz37_11,hcz37_12,hcz37_13,hcz37_14⟩ := cl15 BK281.out; obtain ⟨hfz37_0,hfz37_1,hfz37_2,hfz37_3,hfz37_4,hfz37_5,hfz37_6,hfz37_7,hfz37_8,hfz37_9,hfz37_10,hfz37_11,hfz37_12,hfz37_13,hfz37_14⟩ := fz15 BK281.out) | ((with_reducible refine gate_callee (f:=16) rfl ?_); refine goesL_ (some 44) rfl rfl Try.func16 (by kernel_rfl) rfl #[.slice A0_13 l0_13.length c0_13,.slice A1_13 l1_13.length c1_13] rfl mA ?_; (with_reducible refine (laws_eqSampleS.calls k _ _ l0_13 _ _ l1_13 true _ ?side1 ?side2 ?side3 ?side4 A14.out).mono ?_); (case side1 => exact sC HR0_13.out); (case side2 => exact HC0_13.out); (case side3 => exact sC HR1_13.out); (case side4 => exact HC1_13.out); rintro e w38 ⟨rfl,hb⟩; refine ⟨_,rfl,?_⟩; replace BK280 := bbA BK280 hb; replace BK281 := bbA BK281 hb; replace HB := bsA hb; clear hb; obtain ⟨hcz39_0,hcz39_1,hcz39_2,hcz39_3,hcz39_4,hcz39_5,hcz39_6,hcz39_7,hcz39_8,hcz39_9,hcz39_10,hcz39_11,hcz39_12,hcz39_13,hcz39_14⟩ := cl15 BK280.out; obtain ⟨hfz39_0,hfz39_1,hfz39_2,hfz39_3,hfz39_4,hfz39_5,hfz39_6,hfz39_7,hfz39_8,hfz39_9,hfz39_10,hfz39_11,hfz39_12,hfz39_13,hfz39_14⟩ := fz15 BK280.out; obtain ⟨hcz40_0,hcz40_1,hcz40_2,hcz40_3,hcz40_4,hcz40_5,hcz40_6,hcz40_7,hcz40_8,hcz40_9,hcz40_10,hcz40_11,hcz40_12,hcz40_13,hcz40_14⟩ := cl15 BK281.out; obtain ⟨hfz40_0,hfz40_1,hfz40_2,hfz40_3,hfz40_4,hfz40_5,hfz40_6,hfz40_7,hfz40_8,hfz40_9,hfz40_10,hfz40_11,hfz40_12,hfz40_13,hfz40_14⟩ := fz15 BK281.out) | ((with_reducible refine gate_callee (f:=17) rfl ?_); refine goesL_ (some 50) rfl rfl Try.func17 (by kernel_rfl) rfl #[.slice A0_14 l0_14.length c0_14,.slice A1_14 l1_14.length c1_14] rfl mA ?_; (with_reducible refine (laws_eqAnswerS.calls k _ _ l0_14 _ _ l1_14 true _ ?side1 ?side2 ?side3 ?side4 A16.out).mono ?_); (case side1 => exact sC HR0_14.out); (case side2 => exact HC0_14.out); (case side3 => exact sC HR1_14.out); (case side4 => exact HC1_14.out); rintro e w41 ⟨rfl,hb⟩; refine ⟨_,rfl,?_⟩; replace BK280 := bbA BK280 hb; replace BK281 := bbA BK281 hb; replace HB := bsA hb; clear hb))
         go_ret
         exact ⟨by first | rfl | (simp [errW_none,errW_some] <;> rfl) | (simp [*,errW_none,errW_some] <;> rfl),bA⟩
        ·replace c17 := Bool.eq_false_iff.mpr c17
         subst c17
         rw [if_neg (show ¬ (false = true) by decide)] at H
         obtain rfl := Option.some.inj H
         go_enter Try.func6,Try.ntmps6
         go_wp2_with (first | ((with_reducible refine gate_dst (N:=2) rfl ?_); refine bxe (N:=2) (cs := #[.slice A0_0 l0_0.length c0_0,.int .i64 a0_1,.int .i64 a0_2,.int .i64 a0_3,.int .i64 a0_4,.int .i64 a0_5,.int .i64 a0_6,.int .i64 a0_7,.int .i64 a0_8,.int .i64 a0_9,.slice A0_10 l0_10.length c0_10,.slice A0_11 l0_11.length c0_11,.slice A0_12 l0_12.length c0_12,.slice A0_13 l0_13.length c0_13,.slice A0_14 l0_14.length c0_14]) (t:=32) ?_; intro gb280 hg w42 hbox hb; have BK280 := Aside0.mk (hbox); have GW280 := Aside0.mk ((gw hg : w.heap.size ≤ gb280)); have GE280 := GW280; replace HB := bsA hb; clear hb hbox hg) | ((with_reducible refine gate_dst (N:=3) rfl ?_); refine bxe (N:=3) (cs := #[.slice A1_0 l1_0.length c1_0,.int .i64 a1_1,.int .i64 a1_2,.int .i64 a1_3,.int .i64 a1_4,.int .i64 a1_5,.int .i64 a1_6,.int .i64 a1_7,.int .i64 a1_8,.int .i64 a1_9,.slice A1_10 l1_10.length c1_10,.slice A1_11 l1_11.length c1_11,.slice A1_12 l1_12.length c1_12,.slice A1_13 l1_13.length c1_13,.slice A1_14 l1_14.length c1_14]) (t:=32) ?_; intro gb281 hg w43 hbox hb; have BK281 := Aside0.mk (hbox); have GW281 := Aside0.mk ((gw hg : w.heap.size ≤ gb281)); have GE281 := GW281; replace HB := bsA hb; have NB280_281 := Aside0.mk ((nl hg BK280.out)); have NB281_280 := Aside0.mk ((ng hg BK280.out)); replace BK280 := bbA BK280 hb; clear hb hbox hg; have hnb44 := NB280_281.out; have hnc44 := NB281_280.out; obtain ⟨hcz45_0,hcz45_1,hcz45_2,hcz45_3,hcz45_4,hcz45_5,hcz45_6,hcz45_7,hcz45_8,hcz45_9,hcz45_10,hcz45_11,hcz45_12,hcz45_13,hcz45_14⟩ := cl15 BK280.out; obtain ⟨hfz45_0,hfz45_1,hfz45_2,hfz45_3,hfz45_4,hfz45_5,hfz45_6,hfz45_7,hfz45_8,hfz45_9,hfz45_10,hfz45_11,hfz45_12,hfz45_13,hfz45_14⟩ := fz15 BK280.out; obtain ⟨hcz46_0,hcz46_1,hcz46_2,hcz46_3,hcz46_4,hcz46_5,hcz46_6,hcz46_7,hcz46_8,hcz46_9,hcz46_10,hcz46_11,hcz46_12,hcz46_13,hcz46_14⟩ := cl15 BK281.out; obtain ⟨hfz46_0,hfz46_1,hfz46_2,hfz46_3,hfz46_4,hfz46_5,hfz46_6,hfz46_7,hfz46_8,hfz46_9,hfz46_10,hfz46_11,hfz46_12,hfz46_13,hfz46_14⟩ := fz15 BK281.out) | ((with_reducible refine gate_callee (f:=11) rfl ?_); refine goesL_ (some 9) rfl rfl Try.func11 (by kernel_rfl) rfl #[.agg #[.slice A0_0 l0_0.length c0_0,.int .i64 a0_1],.agg #[.slice A1_0 l1_0.length c1_0,.int .i64 a1_1]] rfl mA ?_; (with_reducible refine (laws_eqStore.calls k _ _ l0_0 a0_1 _ _ l1_0 a1_1 true _ ?side1 ?side2 ?side3 ?side4 A3.out).mono ?_); (case side1 => exact sC HR0_0.out); (case side2 => exact HC0_0.out); (case side3 => exact sC HR1_0.out); (case side4 => exact HC1_0.out); rintro e w47 ⟨rfl,hb⟩; refine ⟨_,rfl,?_⟩; replace BK280 := bbA BK280 hb; replace BK281 := bbA BK281 hb; replace HB := bsA hb; clear hb; obtain ⟨hcz48_0,hcz48_1,hcz48_2,hcz48_3,hcz48_4,hcz48_5,hcz48_6,hcz48_7,hcz48_8,hcz48_9,hcz48_10,hcz48_11,hcz48_12,hcz48_13,hcz48_14⟩ := cl15 BK280.out; obtain ⟨hfz48_0,hfz48_1,hfz48_2,hfz48_3,hfz48_4,hfz48_5,hfz48_6,hfz48_7,hfz48_8,hfz48_9,hfz48_10,hfz48_11,hfz48_12,hfz48_13,hfz48_14⟩ := fz15 BK280.out; obtain ⟨hcz49_0,hcz49_1,hcz49_2,hcz49_3,hcz49_4,hcz49_5,hcz49_6,hcz49_7,hcz49_8,hcz49_9,hcz49_10,hcz49_11,hcz49_12,hcz49_13,hcz49_14⟩ := cl15 BK281.out; obtain ⟨hfz49_0,hfz49_1,hfz49_2,hfz49_3,hfz49_4,hfz49_5,hfz49_6,hfz49_7,hfz49_8,hfz49_9,hfz49_10,hfz49_11,hfz49_12,hfz49_13,hfz49_14⟩ := fz15 BK281.out) | ((with_reducible refine gate_callee (f:=12) rfl ?_); refine goesL_ (some 20) rfl rfl Try.func12 (by kernel_rfl) rfl #[.agg #[.int .i64 a0_3,.int .i64 a0_4,.int .i64 a0_5,.int .i64 a0_6,.int .i64 a0_7,.int .i64 a0_8,.int .i64 a0_9],.agg #[.int .i64 a1_3,.int .i64 a1_4,.int .i64 a1_5,.int .i64 a1_6,.int .i64 a1_7,.int .i64 a1_8,.int .i64 a1_9]] rfl mA ?_; (with_reducible refine (laws_eqIntA7.calls k a0_3 a0_4 a0_5 a0_6 a0_7 a0_8 a0_9 a1_3 a1_4 a1_5 a1_6 a1_7 a1_8 a1_9 true _ A6.out).mono ?_); rintro e w50 ⟨rfl,hb⟩; refine ⟨_,rfl,?_⟩; replace BK280 := bbA BK280 hb; replace BK281 := bbA BK281 hb; replace HB := bsA hb; clear hb; obtain ⟨hcz51_0,hcz51_1,hcz51_2,hcz51_3,hcz51_4,hcz51_5,hcz51_6,hcz51_7,hcz51_8,hcz51_9,hcz51_10,hcz51_11,hcz51_12,hcz51_13,hcz51_14⟩ := cl15 BK280.out; obtain ⟨hfz51_0,hfz51_1,hfz51_2,hfz51_3,hfz51_4,hfz51_5,hfz51_6,hfz51_7,hfz51_8,hfz51_9,hfz51_10,hfz51_11,hfz51_12,hfz51_13,hfz51_14⟩ := fz15 BK280.out; obtain ⟨hcz52_0,hcz52_1,hcz52_2,hcz52_3,hcz52_4,hcz52_5,hcz52_6,hcz52_7,hcz52_8,hcz52_9,hcz52_10,hcz52_11,hcz52_12,hcz52_13,hcz52_14⟩ := cl15 BK281.out; obtain ⟨hfz52_0,hfz52_1,hfz52_2,hfz52_3,hfz52_4,hfz52_5,hfz52_6,hfz52_7,hfz52_8,hfz52_9,hfz52_10,hfz52_11,hfz52_12,hfz52_13,hfz52_14⟩ := fz15 BK281.out) | ((with_reducible refine gate_callee (f:=13) rfl ?_); refine goesL_ (some 26) rfl rfl Try.func13 (by kernel_rfl) rfl #[.slice A0_10 l0_10.length c0_10,.slice A1_10 l1_10.length c1_10] rfl mA ?_; (with_reducible refine (laws_eqWorkerS.calls k _ _ l0_10 _ _ l1_10 true _ ?side1 ?side2 ?side3 ?side4 A8.out).mono ?_); (case side1 => exact sC HR0_10.out); (case side2 => exact HC0_10.out); (case side3 => exact sC HR1_10.out); (case side4 => exact HC1_10.out); rintro e w53 ⟨rfl,hb⟩; refine ⟨_,rfl,?_⟩; replace BK280 := bbA BK280 hb; replace BK281 := bbA BK281 hb; replace HB := bsA hb; clear hb; obtain ⟨hcz54_0,hcz54_1,hcz54_2,hcz54_3,hcz54_4,hcz54_5,hcz54_6,hcz54_7,hcz54_8,hcz54_9,hcz54_10,hcz54_11,hcz54_12,hcz54_13,hcz54_14⟩ := cl15 BK280.out; obtain ⟨hfz54_0,hfz54_1,hfz54_2,hfz54_3,hfz54_4,hfz54_5,hfz54_6,hfz54_7,hfz54_8,hfz54_9,hfz54_10,hfz54_11,hfz54_12,hfz54_13,hfz54_14⟩ := fz15 BK280.out; obtain ⟨hcz55_0,hcz55_1,hcz55_2,hcz55_3,hcz55_4,hcz55_5,hcz55_6,hcz55_7,hcz55_8,hcz55_9,hcz55_10,hcz55_11,hcz55_12,hcz55_13,hcz55_14⟩ := cl15 BK281.out; obtain ⟨hfz55_0,hfz55_1,hfz55_2,hfz55_3,hfz55_4,hfz55_5,hfz55_6,hfz55_7,hfz55_8,hfz55_9,hfz55_10,hfz55_11,hfz55_12,hfz55_13,hfz55_14⟩ := fz15 BK281.out) | ((with_reducible refine gate_callee (f:=14) rfl ?_); refine goesL_ (some 32) rfl rfl Try.func14 (by kernel_rfl) rfl #[.slice A0_11 l0_11.length c0_11,.slice A1_11 l1_11.length c1_11] rfl mA ?_; (with_reducible refine (laws_eqIngesterS.calls k _ _ l0_11 _ _ l1_11 true _ ?side1 ?side2 ?side3 ?side4 A10.out).mono ?_); (case side1 => exact sC HR0_11.out); (case side2 => exact HC0_11.out); (case side3 => exact sC HR1_11.out); (case side4 => exact HC1_11.out); rintro e w56 ⟨rfl,hb⟩; refine ⟨_,rfl,?_⟩; replace BK280 := bbA BK280 hb; replace BK281 := bbA BK281 hb; replace HB := bsA hb; clear hb; obtain ⟨hcz57_0,hcz57_1,hcz57_2,hcz57_3,hcz57_4,hcz57_5,hcz57_6,hcz57_7,hcz57_8,hcz57_9,hcz57_10,hcz57_11,hcz57_12,hcz57_13,hcz57_14⟩ := cl15 BK280.out; obtain ⟨hfz57_0,hfz57_1,hfz57_2,hfz57_3,hfz57_4,hfz57_5,hfz57_6,hfz57_7,hfz57_8,hfz57_9,hfz57_10,hfz57_11,hfz57_12,hfz57_13,hfz57_14⟩ := fz15 BK280.out; obtain ⟨hcz58_0,hcz58_1,hcz58_2,hcz58_3,hcz58_4,hcz58_5,hcz58_6,hcz58_7,hcz58_8,hcz58_9,hcz58_10,hcz58_11,hcz58_12,hcz58_13,hcz58_14⟩ := cl15 BK281.out; obtain ⟨hfz58_0,hfz58_1,hfz58_2,hfz58_3,hfz58_4,hfz58_5,hfz58_6,hfz58_7,hfz58_8,hfz58_9,hfz58_10,hfz58_11,hfz58_12,hfz58_13,hfz58_14⟩ := fz15 BK281.out) | ((with_reducible refine gate_callee (f:=15) rfl ?_); refine goesL_ (some 38) rfl rfl Try.func15 (by kernel_rfl) rfl #[.slice A0_12 l0_12.length c0_12,.slice A1_12 l1_12.length c1_12] rfl mA ?_; (with_reducible refine (laws_eqReaderS.calls k _ _ l0_12 _ _ l1_12 true _ ?side1 ?side2 ?side3 ?side4 A12.out).mono ?_); (case side1 => exact sC HR0_12.out); (case side2 => exact HC0_12.out); (case side3 => exact sC HR1_12.out); (case side4 => exact HC1_12.out); rintro e w59 ⟨rfl,hb⟩; refine ⟨_,rfl,?_⟩; replace BK280 := bbA BK280 hb; replace BK281 := bbA BK281 hb; replace HB := bsA hb; clear hb; obtain ⟨hcz60_0,hcz60_1,hcz60_2,hcz60_3,hcz60_4,hcz60_5,hcz60_6,hcz60_7,hcz60_8,hcz60_9,hcz60_10,hcz60_11,hcz60_12,hcz60_13,hcz60_14⟩ := cl15 BK280.out; obtain ⟨hfz60_0,hfz60_1,hfz60_2,hfz60_3,hfz60_4,hfz60_5,hfz60_6,hfz60_7,hfz60_8,hfz60_9,hfz60_10,hfz60_11,hfz60_12,hfz60_13,hfz60_14⟩ := fz15 BK280.out; obtain ⟨hcz61_0,hcz61_1,hcz61_2,hcz61_3,hcz61_4,hcz61_5,hcz61_6,hcz61_7,hcz61_8,hcz61_9,hcz61_10,hcz61_11,hcz61_12,hcz61_13,hcz61_14⟩ := cl15 BK281.out; obtain ⟨hfz61_0,hfz61_1,hfz61_2,hfz61_3,hfz61_4,hfz61_5,hfz61_6,hfz61_7,hfz61_8,hfz61_9,hfz61_10,hfz61_11,hfz61_12,hfz61_13,hfz61_14⟩ := fz15 BK281.out) | ((with_reducible refine gate_callee (f:=16) rfl ?_); refine goesL_ (some 44) rfl rfl Try.func16 (by kernel_rfl) rfl #[.slice A0_13 l0_13.length c0_13,.slice A1_13 l1_13.length c1_13] rfl mA ?_; (with_reducible refine (laws_eqSampleS.calls k _ _ l0_13 _ _ l1_13 true _ ?side1 ?side2 ?side3 ?side4 A14.out).mono ?_); (case side1 => exact sC HR0_13.out); (case side2 => exact HC0_13.out); (case side3 => exact sC HR1_13.out); (case side4 => exact HC1_13.out); rintro e w62 ⟨rfl,hb⟩; refine ⟨_,rfl,?_⟩; replace BK280 := bbA BK280 hb; replace BK281 := bbA BK281 hb; replace HB := bsA hb; clear hb; obtain ⟨hcz63_0,hcz63_1,hcz63_2,hcz63_3,hcz63_4,hcz63_5,hcz63_6,hcz63_7,hcz63_8,hcz63_9,hcz63_10,hcz63_11,hcz63_12,hcz63_13,hcz63_14⟩ := cl15 BK280.out; obtain ⟨hfz63_0,hfz63_1,hfz63_2,hfz63_3,hfz63_4,hfz63_5,hfz63_6,hfz63_7,hfz63_8,hfz63_9,hfz63_10,hfz63_11,hfz63_12,hfz63_13,hfz63_14⟩ := fz15 BK280.out; obtain ⟨hcz64_0,hcz64_1,hcz64_2,hcz64_3,hcz64_4,hcz64_5,hcz64_6,hcz64_7,hcz64_8,hcz64_9,hcz64_10,hcz64_11,hcz64_12,hcz64_13,hcz64_14⟩ := cl15 BK281.out; obtain ⟨hfz64_0,hfz64_1,hfz64_2,hfz64_3,hfz64_4,hfz64_5,hfz64_6,hfz64_7,hfz64_8,hfz64_9,hfz64_10,hfz64_11,hfz64_12,hfz64_13,hfz64_14⟩ := fz15 BK281.out) | ((with_reducible refine gate_callee (f:=17) rfl ?_); refine goesL_ (some 50) rfl rfl Try.func17 (by kernel_rfl) rfl #[.slice A0_14 l0_14.length c0_14,.slice A1_14 l1_14.length c1_14] rfl mA ?_; (with_reducible refine (laws_eqAnswerS.calls k _ _ l0_14 _ _ l1_14 false _ ?side1 ?side2 ?side3 ?side4 A16.out).mono ?_); (case side1 => exact sC HR0_14.out); (case side2 => exact HC0_14.out); (case side3 => exact sC HR1_14.out); (case side4 => exact HC1_14.out); rintro e w65 ⟨rfl,hb⟩; refine ⟨_,rfl,?_⟩; replace BK280 := bbA BK280 hb; replace BK281 := bbA BK281 hb; replace HB := bsA hb; clear hb))
         go_ret
         exact ⟨by first | rfl | (simp [errW_none,errW_some] <;> rfl) | (simp [*,errW_none,errW_some] <;> rfl),bA⟩
       ·replace c15 := Bool.eq_false_iff.mpr c15
        subst c15
        rw [if_neg (show ¬ (false = true) by decide)] at H
        obtain rfl := Option.some.inj H
        go_enter Try.func6,Try.ntmps6
        go_wp2_with (first | ((with_reducible refine gate_dst (N:=2) rfl ?_); refine bxe (N:=2) (cs := #[.slice A0_0 l0_0.length c0_0,.int .i64 a0_1,.int .i64 a0_2,.int .i64 a0_3,.int .i64 a0_4,.int .i64 a0_5,.int .i64 a0_6,.int .i64 a0_7,.int .i64 a0_8,.int .i64 a0_9,.slice A0_10 l0_10.length c0_10,.slice A0_11 l0_11.length c0_11,.slice A0_12 l0_12.length c0_12,.slice A0_13 l0_13.length c0_13,.slice A0_14 l0_14.length c0_14]) (t:=32) ?_; intro gb280 hg w66 hbox hb; have BK280 := Aside0.mk (hbox); have GW280 := Aside0.mk ((gw hg : w.heap.size ≤ gb280)); have GE280 := GW280; replace HB := bsA hb; clear hb hbox hg) | ((with_reducible refine gate_dst (N:=3) rfl ?_); refine bxe (N:=3) (cs := #[.slice A1_0 l1_0.length c1_0,.int .i64 a1_1,.int .i64 a1_2,.int .i64 a1_3,.int .i64 a1_4,.int .i64 a1_5,.int .i64 a1_6,.int .i64 a1_7,.int .i64 a1_8,.int .i64 a1_9,.slice A1_10 l1_10.length c1_10,.slice A1_11 l1_11.length c1_11,.slice A1_12 l1_12.length c1_12,.slice A1_13 l1_13.length c1_13,.slice A1_14 l1_14.length c1_14]) (t:=32) ?_; intro gb281 hg w67 hbox hb; have BK281 := Aside0.mk (hbox); have GW281 := Aside0.mk ((gw hg : w.heap.size ≤ gb281)); have GE281 := GW281; replace HB := bsA hb; have NB280_281 := Aside0.mk ((nl hg BK280.out)); have NB281_280 := Aside0.mk ((ng hg BK280.out)); replace BK280 := bbA BK280 hb; clear hb hbox hg; have hnb68 := NB280_281.out; have hnc68 := NB281_280.out; obtain ⟨hcz69_0,hcz69_1,hcz69_2,hcz69_3,hcz69_4,hcz69_5,hcz69_6,hcz69_7,hcz69_8,hcz69_9,hcz69_10,hcz69_11,hcz69_12,hcz69_13,hcz69_14⟩ := cl15 BK280.out; obtain ⟨hfz69_0,hfz69_1,hfz69_2,hfz69_3,hfz69_4,hfz69_5,hfz69_6,hfz69_7,hfz69_8,hfz69_9,hfz69_10,hfz69_11,hfz69_12,hfz69_13,hfz69_14⟩ := fz15 BK280.out; obtain ⟨hcz70_0,hcz70_1,hcz70_2,hcz70_3,hcz70_4,hcz70_5,hcz70_6,hcz70_7,hcz70_8,hcz70_9,hcz70_10,hcz70_11,hcz70_12,hcz70_13,hcz70_14⟩ := cl15 BK281.out; obtain ⟨hfz70_0,hfz70_1,hfz70_2,hfz70_3,hfz70_4,hfz70_5,hfz70_6,hfz70_7,hfz70_8,hfz70_9,hfz70_10,hfz70_11,hfz70_12,hfz70_13,hfz70_14⟩ := fz15 BK281.out) | ((with_reducible refine gate_callee (f:=11) rfl ?_); refine goesL_ (some 9) rfl rfl Try.func11 (by kernel_rfl) rfl #[.agg #[.slice A0_0 l0_0.length c0_0,.int .i64 a0_1],.agg #[.slice A1_0 l1_0.length c1_0,.int .i64 a1_1]] rfl mA ?_; (with_reducible refine (laws_eqStore.calls k _ _ l0_0 a0_1 _ _ l1_0 a1_1 true _ ?side1 ?side2 ?side3 ?side4 A3.out).mono ?_); (case side1 => exact sC HR0_0.out); (case side2 => exact HC0_0.out); (case side3 => exact sC HR1_0.out); (case side4 => exact HC1_0.out); rintro e w71 ⟨rfl,hb⟩; refine ⟨_,rfl,?_⟩; replace BK280 := bbA BK280 hb; replace BK281 := bbA BK281 hb; replace HB := bsA hb; clear hb; obtain ⟨hcz72_0,hcz72_1,hcz72_2,hcz72_3,hcz72_4,hcz72_5,hcz72_6,hcz72_7,hcz72_8,hcz72_9,hcz72_10,hcz72_11,hcz72_12,hcz72_13,hcz72_14⟩ := cl15 BK280.out; obtain ⟨hfz72_0,hfz72_1,hfz72_2,hfz72_3,hfz72_4,hfz72_5,hfz72_6,hfz72_7,hfz72_8,hfz72_9,hfz72_10,hfz72_11,hfz72_12,hfz72_13,hfz72_14⟩ := fz15 BK280.out; obtain ⟨hcz73_0,hcz73_1,hcz73_2,hcz73_3,hcz73_4,hcz73_5,hcz73_6,hcz73_7,hcz73_8,hcz73_9,hcz73_10,hcz73_11,hcz73_12,hcz73_13,hcz73_14⟩ := cl15 BK281.out; obtain ⟨hfz73_0,hfz73_1,hfz73_2,hfz73_3,hfz73_4,hfz73_5,hfz73_6,hfz73_7,hfz73_8,hfz73_9,hfz73_10,hfz73_11,hfz73_12,hfz73_13,hfz73_14⟩ := fz15 BK281.out) | ((with_reducible refine gate_callee (f:=12) rfl ?_); refine goesL_ (some 20) rfl rfl Try.func12 (by kernel_rfl) rfl #[.agg #[.int .i64 a0_3,.int .i64 a0_4,.int .i64 a0_5,.int .i64 a0_6,.int .i64 a0_7,.int .i64 a0_8,.int .i64 a0_9],.agg #[.int .i64 a1_3,.int .i64 a1_4,.int .i64 a1_5,.int .i64 a1_6,.int .i64 a1_7,.int .i64 a1_8,.int .i64 a1_9]] rfl mA ?_; (with_reducible refine (laws_eqIntA7.calls k a0_3 a0_4 a0_5 a0_6 a0_7 a0_8 a0_9 a1_3 a1_4 a1_5 a1_6 a1_7 a1_8 a1_9 true _ A6.out).mono ?_); rintro e w74 ⟨rfl,hb⟩; refine ⟨_,rfl,?_⟩; replace BK280 := bbA BK280 hb; replace BK281 := bbA BK281 hb; replace HB := bsA hb; clear hb; obtain ⟨hcz75_0,hcz75_1,hcz75_2,hcz75_3,hcz75_4,hcz75_5,hcz75_6,hcz75_7,hcz75_8,hcz75_9,hcz75_10,hcz75_11,hcz75_12,hcz75_13,hcz75_14⟩ := cl15 BK280.out; obtain ⟨hfz75_0,hfz75_1,hfz75_2,hfz75_3,hfz75_4,hfz75_5,hfz75_6,hfz75_7,hfz75_8,hfz75_9,hfz75_10,hfz75_11,hfz75_12,hfz75_13,hfz75_14⟩ := fz15 BK280.out; obtain ⟨hcz76_0,hcz76_1,hcz76_2,hcz76_3,hcz76_4,hcz76_5,hcz76_6,hcz76_7,hcz76_8,hcz76_9,hcz76_10,hcz76_11,hcz76_12,hcz76_13,hcz76_14⟩ := cl15 BK281.out; obtain ⟨hfz76_0,hfz76_1,hfz76_2,hfz76_3,hfz76_4,hfz76_5,hfz76_6,hfz76_7,hfz76_8,hfz76_9,hfz76_10,hfz76_11,hfz76_12,hfz76_13,hfz76_14⟩ := fz15 BK281.out) | ((with_reducible refine gate_callee (f:=13) rfl ?_); refine goesL_ (some 26) rfl rfl Try.func13 (by kernel_rfl) rfl #[.slice A0_10 l0_10.length c0_10,.slice A1_10 l1_10.length c1_10] rfl mA ?_; (with_reducible refine (laws_eqWorkerS.calls k _ _ l0_10 _ _ l1_10 true _ ?side1 ?side2 ?side3 ?side4 A8.out).mono ?_); (case side1 => exact sC HR0_10.out); (case side2 => exact HC0_10.out); (case side3 => exact sC HR1_10.out); (case side4 => exact HC1_10.out); rintro e w77 ⟨rfl,hb⟩; refine ⟨_,rfl,?_⟩; replace BK280 := bbA BK280 hb; replace BK281 := bbA BK281 hb; replace HB := bsA hb; clear hb; obtain ⟨hcz78_0,hcz78_1,hcz78_2,hcz78_3,hcz78_4,hcz78_5,hcz78_6,hcz78_7,hcz78_8,hcz78_9,hcz78_10,hcz78_11,hcz78_12,hcz78_13,hcz78_14⟩ := cl15 BK280.out; obtain ⟨hfz78_0,hfz78_1,hfz78_2,hfz78_3,hfz78_4,hfz78_5,hfz78_6,hfz78_7,hfz78_8,hfz78_9,hfz78_10,hfz78_11,hfz78_12,hfz78_13,hfz78_14⟩ := fz15 BK280.out; obtain ⟨hcz79_0,hcz79_1,hcz79_2,hcz79_3,hcz79_4,hcz79_5,hcz79_6,hcz79_7,hcz79_8,hcz79_9,hcz79_10,hcz79_11,hcz79_12,hcz79_13,hcz79_14⟩ := cl15 BK281.out; obtain ⟨hfz79_0,hfz79_1,hfz79_2,hfz79_3,hfz79_4,hfz79_5,hfz79_6,hfz79_7,hfz79_8,hfz79_9,hfz79_10,hfz79_11,hfz79_12,hfz79_13,hfz79_14⟩ := fz15 BK281.out) | ((with_reducible refine gate_callee (f:=14) rfl ?_); refine goesL_ (some 32) rfl rfl Try.func14 (by kernel_rfl) rfl #[.slice A0_11 l0_11.length c0_11,.slice A1_11 l1_11.length c1_11] rfl mA ?_; (with_reducible refine (laws_eqIngesterS.calls k _ _ l0_11 _ _ l1_11 true _ ?side1 ?side2 ?side3 ?side4 A10.out).mono ?_); (case side1 => exact sC HR0_11.out); (case side2 => exact HC0_11.out); (case side3 => exact sC HR1_11.out); (case side4 => exact HC1_11.out); rintro e w80 ⟨rfl,hb⟩; refine ⟨_,rfl,?_⟩; replace BK280 := bbA BK280 hb; replace BK281 := bbA BK281 hb; replace HB := bsA hb; clear hb; obtain ⟨hcz81_0,hcz81_1,hcz81_2,hcz81_3,hcz81_4,hcz81_5,hcz81_6,hcz81_7,hcz81_8,hcz81_9,hcz81_10,hcz81_11,hcz81_12,hcz81_13,hcz81_14⟩ := cl15 BK280.out; obtain ⟨hfz81_0,hfz81_1,hfz81_2,hfz81_3,hfz81_4,hfz81_5,hfz81_6,hfz81_7,hfz81_8,hfz81_9,hfz81_10,hfz81_11,hfz81_12,hfz81_13,hfz81_14⟩ := fz15 BK280.out; obtain ⟨hcz82_0,hcz82_1,hcz82_2,hcz82_3,hcz82_4,hcz82_5,hcz82_6,hcz82_7,hcz82_8,hcz82_9,hcz82_10,hcz82_11,hcz82_12,hcz82_13,hcz82_14⟩ := cl15 BK281.out; obtain ⟨hfz82_0,hfz82_1,hfz82_2,hfz82_3,hfz82_4,hfz82_5,hfz82_6,hfz82_7,hfz82_8,hfz82_9,hfz82_10,hfz82_11,hfz82_12,hfz82_13,hfz82_14⟩ := fz15 BK281.out) | ((with_reducible refine gate_callee (f:=15) rfl ?_); refine goesL_ (some 38) rfl rfl Try.func15 (by kernel_rfl) rfl #[.slice A0_12 l0_12.length c0_12,.slice A1_12 l1_12.length c1_12] rfl mA ?_; (with_reducible refine (laws_eqReaderS.calls k _ _ l0_12 _ _ l1_12 true _ ?side1 ?side2 ?side3 ?side4 A12.out).mono ?_); (case side1 => exact sC HR0_12.out); (case side2 => exact HC0_12.out); (case side3 => exact sC HR1_12.out); (case side4 => exact HC1_12.out); rintro e w83 ⟨rfl,hb⟩; refine ⟨_,rfl,?_⟩; replace BK280 := bbA BK280 hb; replace BK281 := bbA BK281 hb; replace HB := bsA hb; clear hb; obtain ⟨hcz84_0,hcz84_1,hcz84_2,hcz84_3,hcz84_4,hcz84_5,hcz84_6,hcz84_7,hcz84_8,hcz84_9,hcz84_10,hcz84_11,hcz84_12,hcz84_13,hcz84_14⟩ := cl15 BK280.out; obtain ⟨hfz84_0,hfz84_1,hfz84_2,hfz84_3,hfz84_4,hfz84_5,hfz84_6,hfz84_7,hfz84_8,hfz84_9,hfz84_10,hfz84_11,hfz84_12,hfz84_13,hfz84_14⟩ := fz15 BK280.out; obtain ⟨hcz85_0,hcz85_1,hcz85_2,hcz85_3,hcz85_4,hcz85_5,hcz85_6,hcz85_7,hcz85_8,hcz85_9,hcz85_10,hcz85_11,hcz85_12,hcz85_13,hcz85_14⟩ := cl15 BK281.out; obtain ⟨hfz85_0,hfz85_1,hfz85_2,hfz85_3,hfz85_4,hfz85_5,hfz85_6,hfz85_7,hfz85_8,hfz85_9,hfz85_10,hfz85_11,hfz85_12,hfz85_13,hfz85_14⟩ := fz15 BK281.out) | ((with_reducible refine gate_callee (f:=16) rfl ?_); refine goesL_ (some 44) rfl rfl Try.func16 (by kernel_rfl) rfl #[.slice A0_13 l0_13.length c0_13,.slice A1_13 l1_13.length c1_13] rfl mA ?_; (with_reducible refine (laws_eqSampleS.calls k _ _ l0_13 _ _ l1_13 false _ ?side1 ?side2 ?side3 ?side4 A14.out).mono ?_); (case side1 => exact sC HR0_13.out); (case side2 => exact HC0_13.out); (case side3 => exact sC HR1_13.out); (case side4 => exact HC1_13.out); rintro e w86 ⟨rfl,hb⟩; refine ⟨_,rfl,?_⟩; replace BK280 := bbA BK280 hb; replace BK281 := bbA BK281 hb; replace HB := bsA hb; clear hb))
        go_ret
        exact ⟨by first | rfl | (simp [errW_none,errW_some] <;> rfl) | (simp [*,errW_none,errW_some] <;> rfl),bA⟩
      ·replace c13 := Bool.eq_false_iff.mpr c13
       subst c13
       rw [if_neg (show ¬ (false = true) by decide)] at H
       obtain rfl := Option.some.inj H
       go_enter Try.func6,Try.ntmps6
       go_wp2_with (first | ((with_reducible refine gate_dst (N:=2) rfl ?_); refine bxe (N:=2) (cs := #[.slice A0_0 l0_0.length c0_0,.int .i64 a0_1,.int .i64 a0_2,.int .i64 a0_3,.int .i64 a0_4,.int .i64 a0_5,.int .i64 a0_6,.int .i64 a0_7,.int .i64 a0_8,.int .i64 a0_9,.slice A0_10 l0_10.length c0_10,.slice A0_11 l0_11.length c0_11,.slice A0_12 l0_12.length c0_12,.slice A0_13 l0_13.length c0_13,.slice A0_14 l0_14.length c0_14]) (t:=32) ?_; intro gb280 hg w87 hbox hb; have BK280 := Aside0.mk (hbox); have GW280 := Aside0.mk ((gw hg : w.heap.size ≤ gb280)); have GE280 := GW280; replace HB := bsA hb; clear hb hbox hg) | ((with_reducible refine gate_dst (N:=3) rfl ?_); refine bxe (N:=3) (cs := #[.slice A1_0 l1_0.length c1_0,.int .i64 a1_1,.int .i64 a1_2,.int .i64 a1_3,.int .i64 a1_4,.int .i64 a1_5,.int .i64 a1_6,.int .i64 a1_7,.int .i64 a1_8,.int .i64 a1_9,.slice A1_10 l1_10.length c1_10,.slice A1_11 l1_11.length c1_11,.slice A1_12 l1_12.length c1_12,.slice A1_13 l1_13.length c1_13,.slice A1_14 l1_14.length c1_14]) (t:=32) ?_; intro gb281 hg w88 hbox hb; have BK281 := Aside0.mk (hbox); have GW281 := Aside0.mk ((gw hg : w.heap.size ≤ gb281)); have GE281 := GW281; replace HB := bsA hb; have NB280_281 := Aside0.mk ((nl hg BK280.out)); have NB281_280 := Aside0.mk ((ng hg BK280.out)); replace BK280 := bbA BK280 hb; clear hb hbox hg; have hnb89 := NB280_281.out; have hnc89 := NB281_280.out; obtain ⟨hcz90_0,hcz90_1,hcz90_2,hcz90_3,hcz90_4,hcz90_5,hcz90_6,hcz90_7,hcz90_8,hcz90_9,hcz90_10,hcz90_11,hcz90_12,hcz90_13,hcz90_14⟩ := cl15 BK280.out; obtain ⟨hfz90_0,hfz90_1,hfz90_2,hfz90_3,hfz90_4,hfz90_5,hfz90_6,hfz90_7,hfz90_8,hfz90_9,hfz90_10,hfz90_11,hfz90_12,hfz90_13,hfz90_14⟩ := fz15 BK280.out; obtain ⟨hcz91_0,hcz91_1,hcz91_2,hcz91_3,hcz91_4,hcz91_5,hcz91_6,hcz91_7,hcz91_8,hcz91_9,hcz91_10,hcz91_11,hcz91_12,hcz91_13,hcz91_14⟩ := cl15 BK281.out; obtain ⟨hfz91_0,hfz91_1,hfz91_2,hfz91_3,hfz91_4,hfz91_5,hfz91_6,hfz91_7,hfz91_8,hfz91_9,hfz91_10,hfz91_11,hfz91_12,hfz91_13,hfz91_14⟩ := fz15 BK281.out) | ((with_reducible refine gate_callee (f:=11) rfl ?_); refine goesL_ (some 9) rfl rfl Try.func11 (by kernel_rfl) rfl #[.agg #[.slice A0_0 l0_0.length c0_0,.int .i64 a0_1],.agg #[.slice A1_0 l1_0.length c1_0,.int .i64 a1_1]] rfl mA ?_; (with_reducible refine (laws_eqStore.calls k _ _ l0_0 a0_1 _ _ l1_0 a1_1 true _ ?side1 ?side2 ?side3 ?side4 A3.out).mono ?_); (case side1 => exact sC HR0_0.out); (case side2 => exact HC0_0.out); (case side3 => exact sC HR1_0.out); (case side4 => exact HC1_0.out); rintro e w92 ⟨rfl,hb⟩; refine ⟨_,rfl,?_⟩; replace BK280 := bbA BK280 hb; replace BK281 := bbA BK281 hb; replace HB := bsA hb; clear hb; obtain ⟨hcz93_0,hcz93_1,hcz93_2,hcz93_3,hcz93_4,hcz93_5,hcz93_6,hcz93_7,hcz93_8,hcz93_9,hcz93_10,hcz93_11,hcz93_12,hcz93_13,hcz93_14⟩ := cl15 BK280.out; obtain ⟨hfz93_0,hfz93_1,hfz93_2,hfz93_3,hfz93_4,hfz93_5,hfz93_6,hfz93_7,hfz93_8,hfz93_9,hfz93_10,hfz93_11,hfz93_12,hfz93_13,hfz93_14⟩ := fz15 BK280.out; obtain ⟨hcz94_0,hcz94_1,hcz94_2,hcz94_3,hcz94_4,hcz94_5,hcz94_6,hcz94_7,hcz94_8,hcz94_9,hcz94_10,hcz94_11,hcz94_12,hcz94_13,hcz94_14⟩ := cl15 BK281.out; obtain ⟨hfz94_0,hfz94_1,hfz94_2,hfz94_3,hfz94_4,hfz94_5,hfz94_6,hfz94_7,hfz94_8,hfz94_9,hfz94_10,hfz94_11,hfz94_12,hfz94_13,hfz94_14⟩ := fz15 BK281.out) | ((with_reducible refine gate_callee (f:=12) rfl ?_); refine goesL_ (some 20) rfl rfl Try.func12 (by kernel_rfl) rfl #[.agg #[.int .i64 a0_3,.int .i64 a0_4,.int .i64 a0_5,.int .i64 a0_6,.int .i64 a0_7,.int .i64 a0_8,.int .i64 a0_9],.agg #[.int .i64 a1_3,.int .i64 a1_4,.int .i64 a1_5,.int .i64 a1_6,.int .i64 a1_7,.int .i64 a1_8,.int .i64 a1_9]] rfl mA ?_; (with_reducible refine (laws_eqIntA7.calls k a0_3 a0_4 a0_5 a0_6 a0_7 a0_8 a0_9 a1_3 a1_4 a1_5 a1_6 a1_7 a1_8 a1_9 true _ A6.out).mono ?_); rintro e w95 ⟨rfl,hb⟩; refine ⟨_,rfl,?_⟩; replace BK280 := bbA BK280 hb; replace BK281 := bbA BK281 hb; replace HB := bsA hb; clear hb; obtain ⟨hcz96_0,hcz96_1,hcz96_2,hcz96_3,hcz96_4,hcz96_5,hcz96_6,hcz96_7,hcz96_8,hcz96_9,hcz96_10,hcz96_11,hcz96_12,hcz96_13,hcz96_14⟩ := cl15 BK280.out; obtain ⟨hfz96_0,hfz96_1,hfz96_2,hfz96_3,hfz96_4,hfz96_5,hfz96_6,hfz96_7,hfz96_8,hfz96_9,hfz96_10,hfz96_11,hfz96_12,hfz96_13,hfz96_14⟩ := fz15 BK280.out; obtain ⟨hcz97_0,hcz97_1,hcz97_2,hcz97_3,hcz97_4,hcz97_5,hcz97_6,hcz97_7,hcz97_8,hcz97_9,hcz97_10,hcz97_11,hcz97_12,hcz97_13,hcz97_14⟩ := cl15 BK281.out; obtain ⟨hfz97_0,hfz97_1,hfz97_2,hfz97_3,hfz97_4,hfz97_5,hfz97_6,hfz97_7,hfz97_8,hfz97_9,hfz97_10,hfz97_11,hfz97_12,hfz97_13,hfz97_14⟩ := fz15 BK281.out) | ((with_reducible refine gate_callee (f:=13) rfl ?_); refine goesL_ (some 26) rfl rfl Try.func13 (by kernel_rfl) rfl #[.slice A0_10 l0_10.length c0_10,.slice A1_10 l1_10.length c1_10] rfl mA ?_; (with_reducible refine (laws_eqWorkerS.calls k _ _ l0_10 _ _ l1_10 true _ ?side1 ?side2 ?side3 ?side4 A8.out).mono ?_); (case side1 => exact sC HR0_10.out); (case side2 => exact HC0_10.out); (case side3 => exact sC HR1_10.out); (case side4 => exact HC1_10.out); rintro e w98 ⟨rfl,hb⟩; refine ⟨_,rfl,?_⟩; replace BK280 := bbA BK280 hb; replace BK281 := bbA BK281 hb; replace HB := bsA hb; clear hb; obtain ⟨hcz99_0,hcz99_1,hcz99_2,hcz99_3,hcz99_4,hcz99_5,hcz99_6,hcz99_7,hcz99_8,hcz99_9,hcz99_10,hcz99_11,hcz99_12,hcz99_13,hcz99_14⟩ := cl15 BK280.out; obtain ⟨hfz99_0,hfz99_1,hfz99_2,hfz99_3,hfz99_4,hfz99_5,hfz99_6,hfz99_7,hfz99_8,hfz99_9,hfz99_10,hfz99_11,hfz99_12,hfz99_13,hfz99_14⟩ := fz15 BK280.out; obtain ⟨hcz100_0,hcz100_1,hcz100_2,hcz100_3,hcz100_4,hcz100_5,hcz100_6,hcz100_7,hcz100_8,hcz100_9,hcz100_10,hcz100_11,hcz100_12,hcz100_13,hcz100_14⟩ := cl15 BK281.out; obtain ⟨hfz100_0,hfz100_1,hfz100_2,hfz100_3,hfz100_4,hfz100_5,hfz100_6,hfz100_7,hfz100_8,hfz100_9,hfz100_10,hfz100_11,hfz100_12,hfz100_13,hfz100_14⟩ := fz15 BK281.out) | ((with_reducible refine gate_callee (f:=14) rfl ?_); refine goesL_ (some 32) rfl rfl Try.func14 (by kernel_rfl) rfl #[.slice A0_11 l0_11.length c0_11,.slice A1_11 l1_11.length c1_11] rfl mA ?_; (with_reducible refine (laws_eqIngesterS.calls k _ _ l0_11 _ _ l1_11 true _ ?side1 ?side2 ?side3 ?side4 A10.out).mono ?_); (case side1 => exact sC HR0_11.out); (case side2 => exact HC0_11.out); (case side3 => exact sC HR1_11.out); (case side4 => exact HC1_11.out); rintro e w101 ⟨rfl,hb⟩; refine ⟨_,rfl,?_⟩; replace BK280 := bbA BK280 hb; replace BK281 := bbA BK281 hb; replace HB := bsA hb; clear hb; obtain ⟨hcz102_0,hcz102_1,hcz102_2,hcz102_3,hcz102_4,hcz102_5,hcz102_6,hcz102_7,hcz102_8,hcz102_9,hcz102_10,hcz102_11,hcz102_12,hcz102_13,hcz102_14⟩ := cl15 BK280.out; obtain ⟨hfz102_0,hfz102_1,hfz102_2,hfz102_3,hfz102_4,hfz102_5,hfz102_6,hfz102_7,hfz102_8,hfz102_9,hfz102_10,hfz102_11,hfz102_12,hfz102_13,hfz102_14⟩ := fz15 BK280.out; obtain ⟨hcz103_0,hcz103_1,hcz103_2,hcz103_3,hcz103_4,hcz103_5,hcz103_6,hcz103_7,hcz103_8,hcz103_9,hcz103_10,hcz103_11,hcz103_12,hcz103_13,hcz103_14⟩ := cl15 BK281.out; obtain ⟨hfz103_0,hfz103_1,hfz103_2,hfz103_3,hfz103_4,hfz103_5,hfz103_6,hfz103_7,hfz103_8,hfz103_9,hfz103_10,hfz103_11,hfz103_12,hfz103_13,hfz103_14⟩ := fz15 BK281.out) | ((with_reducible refine gate_callee (f:=15) rfl ?_); refine goesL_ (some 38) rfl rfl Try.func15 (by kernel_rfl) rfl #[.slice A0_12 l0_12.length c0_12,.slice A1_12 l1_12.length c1_12] rfl mA ?_; (with_reducible refine (laws_eqReaderS.calls k _ _ l0_12 _ _ l1_12 false _ ?side1 ?side2 ?side3 ?side4 A12.out).mono ?_); (case side1 => exact sC HR0_12.out); (case side2 => exact HC0_12.out); (case side3 => exact sC HR1_12.out); (case side4 => exact HC1_12.out); rintro e w104 ⟨rfl,hb⟩; refine ⟨_,rfl,?_⟩; replace BK280 := bbA BK280 hb; replace BK281 := bbA BK281 hb; replace HB := bsA hb; clear hb))
       go_ret
       exact ⟨by first | rfl | (simp [errW_none,errW_some] <;> rfl) | (simp [*,errW_none,errW_some] <;> rfl),bA⟩
     ·replace c11 := Bool.eq_false_iff.mpr c11
      subst c11
      rw [if_neg (show ¬ (false = true) by decide)] at H
      obtain rfl := Option.some.inj H
      go_enter Try.func6,Try.ntmps6
      go_wp2_with (first | ((with_reducible refine gate_dst (N:=2) rfl ?_); refine bxe (N:=2) (cs := #[.slice A0_0 l0_0.length c0_0,.int .i64 a0_1,.int .i64 a0_2,.int .i64 a0_3,.int .i64 a0_4,.int .i64 a0_5,.int .i64 a0_6,.int .i64 a0_7,.int .i64 a0_8,.int .i64 a0_9,.slice A0_10 l0_10.length c0_10,.slice A0_11 l0_11.length c0_11,.slice A0_12 l0_12.length c0_12,.slice A0_13 l0_13.length c0_13,.slice A0_14 l0_14.length c0_14]) (t:=32) ?_; intro gb280 hg w105 hbox hb; have BK280 := Aside0.mk (hbox); have GW280 := Aside0.mk ((gw hg : w.heap.size ≤ gb280)); have GE280 := GW280; replace HB := bsA hb; clear hb hbox hg) | ((with_reducible refine gate_dst (N:=3) rfl ?_); refine bxe (N:=3) (cs := #[.slice A1_0 l1_0.length c1_0,.int .i64 a1_1,.int .i64 a1_2,.int .i64 a1_3,.int .i64 a1_4,.int .i64 a1_5,.int .i64 a1_6,.int .i64 a1_7,.int .i64 a1_8,.int .i64 a1_9,.slice A1_10 l1_10.length c1_10,.slice A1_11 l1_11.length c1_11,.slice A1_12 l1_12.length c1_12,.slice A1_13 l1_13.length c1_13,.slice A1_14 l1_14.length c1_14]) (t:=32) ?_; intro gb281 hg w106 hbox hb; have BK281 := Aside0.mk (hbox); have GW281 := Aside0.mk ((gw hg : w.heap.size ≤ gb281)); have GE281 := GW281; replace HB := bsA hb; have NB280_281 := Aside0.mk ((nl hg BK280.out)); have NB281_280 := Aside0.mk ((ng hg BK280.out)); replace BK280 := bbA BK280 hb; clear hb hbox hg; have hnb107 := NB280_281.out; have hnc107 := NB281_280.out; obtain ⟨hcz108_0,hcz108_1,hcz108_2,hcz108_3,hcz108_4,hcz108_5,hcz108_6,hcz108_7,hcz108_8,hcz108_9,hcz108_10,hcz108_11,hcz108_12,hcz108_13,hcz108_14⟩ := cl15 BK280.out; obtain ⟨hfz108_0,hfz108_1,hfz108_2,hfz108_3,hfz108_4,hfz108_5,hfz108_6,hfz108_7,hfz108_8,hfz108_9,hfz108_10,hfz108_11,hfz108_12,hfz108_13,hfz108_14⟩ := fz15 BK280.out; obtain ⟨hcz109_0,hcz109_1,hcz109_2,hcz109_3,hcz109_4,hcz109_5,hcz109_6,hcz109_7,hcz109_8,hcz109_9,hcz109_10,hcz109_11,hcz109_12,hcz109_13,hcz109_14⟩ := cl15 BK281.out; obtain ⟨hfz109_0,hfz109_1,hfz109_2,hfz109_3,hfz109_4,hfz109_5,hfz109_6,hfz109_7,hfz109_8,hfz109_9,hfz109_10,hfz109_11,hfz109_12,hfz109_13,hfz109_14⟩ := fz15 BK281.out) | ((with_reducible refine gate_callee (f:=11) rfl ?_); refine goesL_ (some 9) rfl rfl Try.func11 (by kernel_rfl) rfl #[.agg #[.slice A0_0 l0_0.length c0_0,.int .i64 a0_1],.agg #[.slice A1_0 l1_0.length c1_0,.int .i64 a1_1]] rfl mA ?_; (with_reducible refine (laws_eqStore.calls k _ _ l0_0 a0_1 _ _ l1_0 a1_1 true _ ?side1 ?side2 ?side3 ?side4 A3.out).mono ?_); (case side1 => exact sC HR0_0.out); (case side2 => exact HC0_0.out); (case side3 => exact sC HR1_0.out); (case side4 => exact HC1_0.out); rintro e w110 ⟨rfl,hb⟩; refine ⟨_,rfl,?_⟩; replace BK280 := bbA BK280 hb; replace BK281 := bbA BK281 hb; replace HB := bsA hb; clear hb; obtain ⟨hcz111_0,hcz111_1,hcz111_2,hcz111_3,hcz111_4,hcz111_5,hcz111_6,hcz111_7,hcz111_8,hcz111_9,hcz111_10,hcz111_11,hcz111_12,hcz111_13,hcz111_14⟩ := cl15 BK280.out; obtain ⟨hfz111_0,hfz111_1,hfz111_2,hfz111_3,hfz111_4,hfz111_5,hfz111_6,hfz111_7,hfz111_8,hfz111_9,hfz111_10,hfz111_11,hfz111_12,hfz111_13,hfz111_14⟩ := fz15 BK280.out; obtain ⟨hcz112_0,hcz112_1,hcz112_2,hcz112_3,hcz112_4,hcz112_5,hcz112_6,hcz112_7,hcz112_8,hcz112_9,hcz112_10,hcz112_11,hcz112_12,hcz112_13,hcz112_14⟩ := cl15 BK281.out; obtain ⟨hfz112_0,hfz112_1,hfz112_2,hfz112_3,hfz112_4,hfz112_5,hfz112_6,hfz112_7,hfz112_8,hfz112_9,hfz112_10,hfz112_11,hfz112_12,hfz112_13,hfz112_14⟩ := fz15 BK281.out) | ((with_reducible refine gate_callee (f:=12) rfl ?_); refine goesL_ (some 20) rfl rfl Try.func12 (by kernel_rfl) rfl #[.agg #[.int .i64 a0_3,.int .i64 a0_4,.int .i64 a0_5,.int .i64 a0_6,.int .i64 a0_7,.int .i64 a0_8,.int .i64 a0_9],.agg #[.int .i64 a1_3,.int .i64 a1_4,.int .i64 a1_5,.int .i64 a1_6,.int .i64 a1_7,.int .i64 a1_8,.int .i64 a1_9]] rfl mA ?_; (with_reducible refine (laws_eqIntA7.calls k a0_3 a0_4 a0_5 a0_6 a0_7 a0_8 a0_9 a1_3 a1_4 a1_5 a1_6 a1_7 a1_8 a1_9 true _ A6.out).mono ?_); rintro e w113 ⟨rfl,hb⟩; refine ⟨_,rfl,?_⟩; replace BK280 := bbA BK280 hb; replace BK281 := bbA BK281 hb; replace HB := bsA hb; clear hb; obtain ⟨hcz114_0,hcz114_1,hcz114_2,hcz114_3,hcz114_4,hcz114_5,hcz114_6,hcz114_7,hcz114_8,hcz114_9,hcz114_10,hcz114_11,hcz114_12,hcz114_13,hcz114_14⟩ := cl15 BK280.out; obtain ⟨hfz114_0,hfz114_1,hfz114_2,hfz114_3,hfz114_4,hfz114_5,hfz114_6,hfz114_7,hfz114_8,hfz114_9,hfz114_10,hfz114_11,hfz114_12,hfz114_13,hfz114_14⟩ := fz15 BK280.out; obtain ⟨hcz115_0,hcz115_1,hcz115_2,hcz115_3,hcz115_4,hcz115_5,hcz115_6,hcz115_7,hcz115_8,hcz115_9,hcz115_10,hcz115_11,hcz115_12,hcz115_13,hcz115_14⟩ := cl15 BK281.out; obtain ⟨hfz115_0,hfz115_1,hfz115_2,hfz115_3,hfz115_4,hfz115_5,hfz115_6,hfz115_7,hfz115_8,hfz115_9,hfz115_10,hfz115_11,hfz115_12,hfz115_13,hfz115_14⟩ := fz15 BK281.out) | ((with_reducible refine gate_callee (f:=13) rfl ?_); refine goesL_ (some 26) rfl rfl Try.func13 (by kernel_rfl) rfl #[.slice A0_10 l0_10.length c0_10,.slice A1_10 l1_10.length c1_10] rfl mA ?_; (with_reducible refine (laws_eqWorkerS.calls k _ _ l0_10 _ _ l1_10 true _ ?side1 ?side2 ?side3 ?side4 A8.out).mono ?_); (case side1 => exact sC HR0_10.out); (case side2 => exact HC0_10.out); (case side3 => exact sC HR1_10.out); (case side4 => exact HC1_10.out); rintro e w116 ⟨rfl,hb⟩; refine ⟨_,rfl,?_⟩; replace BK280 := bbA BK280 hb; replace BK281 := bbA BK281 hb; replace HB := bsA hb; clear hb; obtain ⟨hcz117_0,hcz117_1,hcz117_2,hcz117_3,hcz117_4,hcz117_5,hcz117_6,hcz117_7,hcz117_8,hcz117_9,hcz117_10,hcz117_11,hcz117_12,hcz117_13,hcz117_14⟩ := cl15 BK280.out; obtain ⟨hfz117_0,hfz117_1,hfz117_2,hfz117_3,hfz117_4,hfz117_5,hfz117_6,hfz117_7,hfz117_8,hfz117_9,hfz117_10,hfz117_11,hfz117_12,hfz117_13,hfz117_14⟩ := fz15 BK280.out; obtain ⟨hcz118_0,hcz118_1,hcz118_2,hcz118_3,hcz118_4,hcz118_5,hcz118_6,hcz118_7,hcz118_8,hcz118_9,hcz118_10,hcz118_11,hcz118_12,hcz118_13,hcz118_14⟩ := cl15 BK281.out; obtain ⟨hfz118_0,hfz118_1,hfz118_2,hfz118_3,hfz118_4,hfz118_5,hfz118_6,hfz118_7,hfz118_8,hfz118_9,hfz118_10,hfz118_11,hfz118_12,hfz118_13,hfz118_14⟩ := fz15 BK281.out) | ((with_reducible refine gate_callee (f:=14) rfl ?_); refine goesL_ (some 32) rfl rfl Try.func14 (by kernel_rfl) rfl #[.slice A0_11 l0_11.length c0_11,.slice A1_11 l1_11.length c1_11] rfl mA ?_; (with_reducible refine (laws_eqIngesterS.calls k _ _ l0_11 _ _ l1_11 false _ ?side1 ?side2 ?side3 ?side4 A10.out).mono ?_); (case side1 => exact sC HR0_11.out); (case side2 => exact HC0_11.out); (case side3 => exact sC HR1_11.out); (case side4 => exact HC1_11.out); rintro e w119 ⟨rfl,hb⟩; refine ⟨_,rfl,?_⟩; replace BK280 := bbA BK280 hb; replace BK281 := bbA BK281 hb; replace HB := bsA hb; clear hb))
      go_ret
      exact ⟨by first | rfl | (simp [errW_none,errW_some] <;> rfl) | (simp [*,errW_none,errW_some] <;> rfl),bA⟩
    ·replace c9 := Bool.eq_false_iff.mpr c9
     subst c9
     rw [if_neg (show ¬ (false = true) by decide)] at H
     obtain rfl := Option.some.inj H
     go_enter Try.func6,Try.ntmps6
     go_wp2_with (first | ((with_reducible refine gate_dst (N:=2) rfl ?_); refine bxe (N:=2) (cs := #[.slice A0_0 l0_0.length c0_0,.int .i64 a0_1,.int .i64 a0_2,.int .i64 a0_3,.int .i64 a0_4,.int .i64 a0_5,.int .i64 a0_6,.int .i64 a0_7,.int .i64 a0_8,.int .i64 a0_9,.slice A0_10 l0_10.length c0_10,.slice A0_11 l0_11.length c0_11,.slice A0_12 l0_12.length c0_12,.slice A0_13 l0_13.length c0_13,.slice A0_14 l0_14.length c0_14]) (t:=32) ?_; intro gb280 hg w120 hbox hb; have BK280 := Aside0.mk (hbox); have GW280 := Aside0.mk ((gw hg : w.heap.size ≤ gb280)); have GE280 := GW280; replace HB := bsA hb; clear hb hbox hg) | ((with_reducible refine gate_dst (N:=3) rfl ?_); refine bxe (N:=3) (cs := #[.slice A1_0 l1_0.length c1_0,.int .i64 a1_1,.int .i64 a1_2,.int .i64 a1_3,.int .i64 a1_4,.int .i64 a1_5,.int .i64 a1_6,.int .i64 a1_7,.int .i64 a1_8,.int .i64 a1_9,.slice A1_10 l1_10.length c1_10,.slice A1_11 l1_11.length c1_11,.slice A1_12 l1_12.length c1_12,.slice A1_13 l1_13.length c1_13,.slice A1_14 l1_14.length c1_14]) (t:=32) ?_; intro gb281 hg w121 hbox hb; have BK281 := Aside0.mk (hbox); have GW281 := Aside0.mk ((gw hg : w.heap.size ≤ gb281)); have GE281 := GW281; replace HB := bsA hb; have NB280_281 := Aside0.mk ((nl hg BK280.out)); have NB281_280 := Aside0.mk ((ng hg BK280.out)); replace BK280 := bbA BK280 hb; clear hb hbox hg; have hnb122 := NB280_281.out; have hnc122 := NB281_280.out; obtain ⟨hcz123_0,hcz123_1,hcz123_2,hcz123_3,hcz123_4,hcz123_5,hcz123_6,hcz123_7,hcz123_8,hcz123_9,hcz123_10,hcz123_11,hcz123_12,hcz123_13,hcz123_14⟩ := cl15 BK280.out; obtain ⟨hfz123_0,hfz123_1,hfz123_2,hfz123_3,hfz123_4,hfz123_5,hfz123_6,hfz123_7,hfz123_8,hfz123_9,hfz123_10,hfz123_11,hfz123_12,hfz123_13,hfz123_14⟩ := fz15 BK280.out; obtain ⟨hcz124_0,hcz124_1,hcz124_2,hcz124_3,hcz124_4,hcz124_5,hcz124_6,hcz124_7,hcz124_8,hcz124_9,hcz124_10,hcz124_11,hcz124_12,hcz124_13,hcz124_14⟩ := cl15 BK281.out; obtain ⟨hfz124_0,hfz124_1,hfz124_2,hfz124_3,hfz124_4,hfz124_5,hfz124_6,hfz124_7,hfz124_8,hfz124_9,hfz124_10,hfz124_11,hfz124_12,hfz124_13,hfz124_14⟩ := fz15 BK281.out) | ((with_reducible refine gate_callee (f:=11) rfl ?_); refine goesL_ (some 9) rfl rfl Try.func11 (by kernel_rfl) rfl #[.agg #[.slice A0_0 l0_0.length c0_0,.int .i64 a0_1],.agg #[.slice A1_0 l1_0.length c1_0,.int .i64 a1_1]] rfl mA ?_; (with_reducible refine (laws_eqStore.calls k _ _ l0_0 a0_1 _ _ l1_0 a1_1 true _ ?side1 ?side2 ?side3 ?side4 A3.out).mono ?_); (case side1 => exact sC HR0_0.out); (case side2 => exact HC0_0.out); (case side3 => exact sC HR1_0.out); (case side4 => exact HC1_0.out); rintro e w125 ⟨rfl,hb⟩; refine ⟨_,rfl,?_⟩; replace BK280 := bbA BK280 hb; replace BK281 := bbA BK281 hb; replace HB := bsA hb; clear hb; obtain ⟨hcz126_0,hcz126_1,hcz126_2,hcz126_3,hcz126_4,hcz126_5,hcz126_6,hcz126_7,hcz126_8,hcz126_9,hcz126_10,hcz126_11,hcz126_12,hcz126_13,hcz126_14⟩ := cl15 BK280.out; obtain ⟨hfz126_0,hfz126_1,hfz126_2,hfz126_3,hfz126_4,hfz126_5,hfz126_6,hfz126_7,hfz126_8,hfz126_9,hfz126_10,hfz126_11,hfz126_12,hfz126_13,hfz126_14⟩ := fz15 BK280.out; obtain ⟨hcz127_0,hcz127_1,hcz127_2,hcz127_3,hcz127_4,hcz127_5,hcz127_6,hcz127_7,hcz127_8,hcz127_9,hcz127_10,hcz127_11,hcz127_12,hcz127_13,hcz127_14⟩ := cl15 BK281.out; obtain ⟨hfz127_0,hfz127_1,hfz127_2,hfz127_3,hfz127_4,hfz127_5,hfz127_6,hfz127_7,hfz127_8,hfz127_9,hfz127_10,hfz127_11,hfz127_12,hfz127_13,hfz127_14⟩ := fz15 BK281.out) | ((with_reducible refine gate_callee (f:=12) rfl ?_); refine goesL_ (some 20) rfl rfl Try.func12 (by kernel_rfl) rfl #[.agg #[.int .i64 a0_3,.int .i64 a0_4,.int .i64 a0_5,.int .i64 a0_6,.int .i64 a0_7,.int .i64 a0_8,.int .i64 a0_9],.agg #[.int .i64 a1_3,.int .i64 a1_4,.int .i64 a1_5,.int .i64 a1_6,.int .i64 a1_7,.int .i64 a1_8,.int .i64 a1_9]] rfl mA ?_; (with_reducible refine (laws_eqIntA7.calls k a0_3 a0_4 a0_5 a0_6 a0_7 a0_8 a0_9 a1_3 a1_4 a1_5 a1_6 a1_7 a1_8 a1_9 true _ A6.out).mono ?_); rintro e w128 ⟨rfl,hb⟩; refine ⟨_,rfl,?_⟩; replace BK280 := bbA BK280 hb; replace BK281 := bbA BK281 hb; replace HB := bsA hb; clear hb; obtain ⟨hcz129_0,hcz129_1,hcz129_2,hcz129_3,hcz129_4,hcz129_5,hcz129_6,hcz129_7,hcz129_8,hcz129_9,hcz129_10,hcz129_11,hcz129_12,hcz129_13,hcz129_14⟩ := cl15 BK280.out; obtain ⟨hfz129_0,hfz129_1,hfz129_2,hfz129_3,hfz129_4,hfz129_5,hfz129_6,hfz129_7,hfz129_8,hfz129_9,hfz129_10,hfz129_11,hfz129_12,hfz129_13,hfz129_14⟩ := fz15 BK280.out; obtain ⟨hcz130_0,hcz130_1,hcz130_2,hcz130_3,hcz130_4,hcz130_5,hcz130_6,hcz130_7,hcz130_8,hcz130_9,hcz130_10,hcz130_11,hcz130_12,hcz130_13,hcz130_14⟩ := cl15 BK281.out; obtain ⟨hfz130_0,hfz130_1,hfz130_2,hfz130_3,hfz130_4,hfz130_5,hfz130_6,hfz130_7,hfz130_8,hfz130_9,hfz130_10,hfz130_11,hfz130_12,hfz130_13,hfz130_14⟩ := fz15 BK281.out) | ((with_reducible refine gate_callee (f:=13) rfl ?_); refine goesL_ (some 26) rfl rfl Try.func13 (by kernel_rfl) rfl #[.slice A0_10 l0_10.length c0_10,.slice A1_10 l1_10.length c1_10] rfl mA ?_; (with_reducible refine (laws_eqWorkerS.calls k _ _ l0_10 _ _ l1_10 false _ ?side1 ?side2 ?side3 ?side4 A8.out).mono ?_); (case side1 => exact sC HR0_10.out); (case side2 => exact HC0_10.out); (case side3 => exact sC HR1_10.out); (case side4 => exact HC1_10.out); rintro e w131 ⟨rfl,hb⟩; refine ⟨_,rfl,?_⟩; replace BK280 := bbA BK280 hb; replace BK281 := bbA BK281 hb; replace HB := bsA hb; clear hb))
     go_ret
     exact ⟨by first | rfl | (simp [errW_none,errW_some] <;> rfl) | (simp [*,errW_none,errW_some] <;> rfl),bA⟩
   ·replace c7 := Bool.eq_false_iff.mpr c7
    subst c7
    rw [if_neg (show ¬ (false = true) by decide)] at H
    obtain rfl := Option.some.inj H
    go_enter Try.func6,Try.ntmps6
    go_wp2_with (first | ((with_reducible refine gate_dst (N:=2) rfl ?_); refine bxe (N:=2) (cs := #[.slice A0_0 l0_0.length c0_0,.int .i64 a0_1,.int .i64 a0_2,.int .i64 a0_3,.int .i64 a0_4,.int .i64 a0_5,.int .i64 a0_6,.int .i64 a0_7,.int .i64 a0_8,.int .i64 a0_9,.slice A0_10 l0_10.length c0_10,.slice A0_11 l0_11.length c0_11,.slice A0_12 l0_12.length c0_12,.slice A0_13 l0_13.length c0_13,.slice A0_14 l0_14.length c0_14]) (t:=32) ?_; intro gb280 hg w132 hbox hb; have BK280 := Aside0.mk (hbox); have GW280 := Aside0.mk ((gw hg : w.heap.size ≤ gb280)); have GE280 := GW280; replace HB := bsA hb; clear hb hbox hg) | ((with_reducible refine gate_dst (N:=3) rfl ?_); refine bxe (N:=3) (cs := #[.slice A1_0 l1_0.length c1_0,.int .i64 a1_1,.int .i64 a1_2,.int .i64 a1_3,.int .i64 a1_4,.int .i64 a1_5,.int .i64 a1_6,.int .i64 a1_7,.int .i64 a1_8,.int .i64 a1_9,.slice A1_10 l1_10.length c1_10,.slice A1_11 l1_11.length c1_11,.slice A1_12 l1_12.length c1_12,.slice A1_13 l1_13.length c1_13,.slice A1_14 l1_14.length c1_14]) (t:=32) ?_; intro gb281 hg w133 hbox hb; have BK281 := Aside0.mk (hbox); have GW281 := Aside0.mk ((gw hg : w.heap.size ≤ gb281)); have GE281 := GW281; replace HB := bsA hb; have NB280_281 := Aside0.mk ((nl hg BK280.out)); have NB281_280 := Aside0.mk ((ng hg BK280.out)); replace BK280 := bbA BK280 hb; clear hb hbox hg; have hnb134 := NB280_281.out; have hnc134 := NB281_280.out; obtain ⟨hcz135_0,hcz135_1,hcz135_2,hcz135_3,hcz135_4,hcz135_5,hcz135_6,hcz135_7,hcz135_8,hcz135_9,hcz135_10,hcz135_11,hcz135_12,hcz135_13,hcz135_14⟩ := cl15 BK280.out; obtain ⟨hfz135_0,hfz135_1,hfz135_2,hfz135_3,hfz135_4,hfz135_5,hfz135_6,hfz135_7,hfz135_8,hfz135_9,hfz135_10,hfz135_11,hfz135_12,hfz135_13,hfz135_14⟩ := fz15 BK280.out; obtain ⟨hcz136_0,hcz136_1,hcz136_2,hcz136_3,hcz136_4,hcz136_5,hcz136_6,hcz136_7,hcz136_8,hcz136_9,hcz136_10,hcz136_11,hcz136_12,hcz136_13,hcz136_14⟩ := cl15 BK281.out; obtain ⟨hfz136_0,hfz136_1,hfz136_2,hfz136_3,hfz136_4,hfz136_5,hfz136_6,hfz136_7,hfz136_8,hfz136_9,hfz136_10,hfz136_11,hfz136_12,hfz136_13,hfz136_14⟩ := fz15 BK281.out) | ((with_reducible refine gate_callee (f:=11) rfl ?_); refine goesL_ (some 9) rfl rfl Try.func11 (by kernel_rfl) rfl #[.agg #[.slice A0_0 l0_0.length c0_0,.int .i64 a0_1],.agg #[.slice A1_0 l1_0.length c1_0,.int .i64 a1_1]] rfl mA ?_; (with_reducible refine (laws_eqStore.calls k _ _ l0_0 a0_1 _ _ l1_0 a1_1 true _ ?side1 ?side2 ?side3 ?side4 A3.out).mono ?_); (case side1 => exact sC HR0_0.out); (case side2 => exact HC0_0.out); (case side3 => exact sC HR1_0.out); (case side4 => exact HC1_0.out); rintro e w137 ⟨rfl,hb⟩; refine ⟨_,rfl,?_⟩; replace BK280 := bbA BK280 hb; replace BK281 := bbA BK281 hb; replace HB := bsA hb; clear hb; obtain ⟨hcz138_0,hcz138_1,hcz138_2,hcz138_3,hcz138_4,hcz138_5,hcz138_6,hcz138_7,hcz138_8,hcz138_9,hcz138_10,hcz138_11,hcz138_12,hcz138_13,hcz138_14⟩ := cl15 BK280.out; obtain ⟨hfz138_0,hfz138_1,hfz138_2,hfz138_3,hfz138_4,hfz138_5,hfz138_6,hfz138_7,hfz138_8,hfz138_9,hfz138_10,hfz138_11,hfz138_12,hfz138_13,hfz138_14⟩ := fz15 BK280.out; obtain ⟨hcz139_0,hcz139_1,hcz139_2,hcz139_3,hcz139_4,hcz139_5,hcz139_6,hcz139_7,hcz139_8,hcz139_9,hcz139_10,hcz139_11,hcz139_12,hcz139_13,hcz139_14⟩ := cl15 BK281.out; obtain ⟨hfz139_0,hfz139_1,hfz139_2,hfz139_3,hfz139_4,hfz139_5,hfz139_6,hfz139_7,hfz139_8,hfz139_9,hfz139_10,hfz139_11,hfz139_12,hfz139_13,hfz139_14⟩ := fz15 BK281.out) | ((with_reducible refine gate_callee (f:=12) rfl ?_); refine goesL_ (some 20) rfl rfl Try.func12 (by kernel_rfl) rfl #[.agg #[.int .i64 a0_3,.int .i64 a0_4,.int .i64 a0_5,.int .i64 a0_6,.int .i64 a0_7,.int .i64 a0_8,.int .i64 a0_9],.agg #[.int .i64 a1_3,.int .i64 a1_4,.int .i64 a1_5,.int .i64 a1_6,.int .i64 a1_7,.int .i64 a1_8,.int .i64 a1_9]] rfl mA ?_; (with_reducible refine (laws_eqIntA7.calls k a0_3 a0_4 a0_5 a0_6 a0_7 a0_8 a0_9 a1_3 a1_4 a1_5 a1_6 a1_7 a1_8 a1_9 false _ A6.out).mono ?_); rintro e w140 ⟨rfl,hb⟩; refine ⟨_,rfl,?_⟩; replace BK280 := bbA BK280 hb; replace BK281 := bbA BK281 hb; replace HB := bsA hb; clear hb))
    go_ret
    exact ⟨by first | rfl | (simp [errW_none,errW_some] <;> rfl) | (simp [*,errW_none,errW_some] <;> rfl),bA⟩
  ·rw [if_neg c5] at H
   have c5b0 : (a0_2 == a1_2) = false := beq_eq_false_iff_ne.mpr c5
   have c5b1 : (a0_2 != a1_2) = true := bne_iff_ne.mpr c5
   obtain rfl := Option.some.inj H
   go_enter Try.func6,Try.ntmps6
   go_wp2_with (first | ((with_reducible refine gate_dst (N:=2) rfl ?_); refine bxe (N:=2) (cs := #[.slice A0_0 l0_0.length c0_0,.int .i64 a0_1,.int .i64 a0_2,.int .i64 a0_3,.int .i64 a0_4,.int .i64 a0_5,.int .i64 a0_6,.int .i64 a0_7,.int .i64 a0_8,.int .i64 a0_9,.slice A0_10 l0_10.length c0_10,.slice A0_11 l0_11.length c0_11,.slice A0_12 l0_12.length c0_12,.slice A0_13 l0_13.length c0_13,.slice A0_14 l0_14.length c0_14]) (t:=32) ?_; intro gb280 hg w141 hbox hb; have BK280 := Aside0.mk (hbox); have GW280 := Aside0.mk ((gw hg : w.heap.size ≤ gb280)); have GE280 := GW280; replace HB := bsA hb; clear hb hbox hg) | ((with_reducible refine gate_dst (N:=3) rfl ?_); refine bxe (N:=3) (cs := #[.slice A1_0 l1_0.length c1_0,.int .i64 a1_1,.int .i64 a1_2,.int .i64 a1_3,.int .i64 a1_4,.int .i64 a1_5,.int .i64 a1_6,.int .i64 a1_7,.int .i64 a1_8,.int .i64 a1_9,.slice A1_10 l1_10.length c1_10,.slice A1_11 l1_11.length c1_11,.slice A1_12 l1_12.length c1_12,.slice A1_13 l1_13.length c1_13,.slice A1_14 l1_14.length c1_14]) (t:=32) ?_; intro gb281 hg w142 hbox hb; have BK281 := Aside0.mk (hbox); have GW281 := Aside0.mk ((gw hg : w.heap.size ≤ gb281)); have GE281 := GW281; replace HB := bsA hb; have NB280_281 := Aside0.mk ((nl hg BK280.out)); have NB281_280 := Aside0.mk ((ng hg BK280.out)); replace BK280 := bbA BK280 hb; clear hb hbox hg; have hnb143 := NB280_281.out; have hnc143 := NB281_280.out; obtain ⟨hcz144_0,hcz144_1,hcz144_2,hcz144_3,hcz144_4,hcz144_5,hcz144_6,hcz144_7,hcz144_8,hcz144_9,hcz144_10,hcz144_11,hcz144_12,hcz144_13,hcz144_14⟩ := cl15 BK280.out; obtain ⟨hfz144_0,hfz144_1,hfz144_2,hfz144_3,hfz144_4,hfz144_5,hfz144_6,hfz144_7,hfz144_8,hfz144_9,hfz144_10,hfz144_11,hfz144_12,hfz144_13,hfz144_14⟩ := fz15 BK280.out; obtain ⟨hcz145_0,hcz145_1,hcz145_2,hcz145_3,hcz145_4,hcz145_5,hcz145_6,hcz145_7,hcz145_8,hcz145_9,hcz145_10,hcz145_11,hcz145_12,hcz145_13,hcz145_14⟩ := cl15 BK281.out; obtain ⟨hfz145_0,hfz145_1,hfz145_2,hfz145_3,hfz145_4,hfz145_5,hfz145_6,hfz145_7,hfz145_8,hfz145_9,hfz145_10,hfz145_11,hfz145_12,hfz145_13,hfz145_14⟩ := fz15 BK281.out) | ((with_reducible refine gate_callee (f:=11) rfl ?_); refine goesL_ (some 9) rfl rfl Try.func11 (by kernel_rfl) rfl #[.agg #[.slice A0_0 l0_0.length c0_0,.int .i64 a0_1],.agg #[.slice A1_0 l1_0.length c1_0,.int .i64 a1_1]] rfl mA ?_; (with_reducible refine (laws_eqStore.calls k _ _ l0_0 a0_1 _ _ l1_0 a1_1 true _ ?side1 ?side2 ?side3 ?side4 A3.out).mono ?_); (case side1 => exact sC HR0_0.out); (case side2 => exact HC0_0.out); (case side3 => exact sC HR1_0.out); (case side4 => exact HC1_0.out); rintro e w146 ⟨rfl,hb⟩; refine ⟨_,rfl,?_⟩; replace BK280 := bbA BK280 hb; replace BK281 := bbA BK281 hb; replace HB := bsA hb; clear hb; obtain ⟨hcz147_0,hcz147_1,hcz147_2,hcz147_3,hcz147_4,hcz147_5,hcz147_6,hcz147_7,hcz147_8,hcz147_9,hcz147_10,hcz147_11,hcz147_12,hcz147_13,hcz147_14⟩ := cl15 BK280.out; obtain ⟨hfz147_0,hfz147_1,hfz147_2,hfz147_3,hfz147_4,hfz147_5,hfz147_6,hfz147_7,hfz147_8,hfz147_9,hfz147_10,hfz147_11,hfz147_12,hfz147_13,hfz147_14⟩ := fz15 BK280.out; obtain ⟨hcz148_0,hcz148_1,hcz148_2,hcz148_3,hcz148_4,hcz148_5,hcz148_6,hcz148_7,hcz148_8,hcz148_9,hcz148_10,hcz148_11,hcz148_12,hcz148_13,hcz148_14⟩ := cl15 BK281.out; obtain ⟨hfz148_0,hfz148_1,hfz148_2,hfz148_3,hfz148_4,hfz148_5,hfz148_6,hfz148_7,hfz148_8,hfz148_9,hfz148_10,hfz148_11,hfz148_12,hfz148_13,hfz148_14⟩ := fz15 BK281.out))
   go_ret
   exact ⟨by first | rfl | (simp [errW_none,errW_some] <;> rfl) | (simp [*,errW_none,errW_some] <;> rfl),bA⟩
 ·replace c4 := Bool.eq_false_iff.mpr c4
  subst c4
  rw [if_neg (show ¬ (false = true) by decide)] at H
  obtain rfl := Option.some.inj H
  go_enter Try.func6,Try.ntmps6
  go_wp2_with (first | ((with_reducible refine gate_dst (N:=2) rfl ?_); refine bxe (N:=2) (cs := #[.slice A0_0 l0_0.length c0_0,.int .i64 a0_1,.int .i64 a0_2,.int .i64 a0_3,.int .i64 a0_4,.int .i64 a0_5,.int .i64 a0_6,.int .i64 a0_7,.int .i64 a0_8,.int .i64 a0_9,.slice A0_10 l0_10.length c0_10,.slice A0_11 l0_11.length c0_11,.slice A0_12 l0_12.length c0_12,.slice A0_13 l0_13.length c0_13,.slice A0_14 l0_14.length c0_14]) (t:=32) ?_; intro gb280 hg w149 hbox hb; have BK280 := Aside0.mk (hbox); have GW280 := Aside0.mk ((gw hg : w.heap.size ≤ gb280)); have GE280 := GW280; replace HB := bsA hb; clear hb hbox hg) | ((with_reducible refine gate_dst (N:=3) rfl ?_); refine bxe (N:=3) (cs := #[.slice A1_0 l1_0.length c1_0,.int .i64 a1_1,.int .i64 a1_2,.int .i64 a1_3,.int .i64 a1_4,.int .i64 a1_5,.int .i64 a1_6,.int .i64 a1_7,.int .i64 a1_8,.int .i64 a1_9,.slice A1_10 l1_10.length c1_10,.slice A1_11 l1_11.length c1_11,.slice A1_12 l1_12.length c1_12,.slice A1_13 l1_13.length c1_13,.slice A1_14 l1_14.length c1_14]) (t:=32) ?_; intro gb281 hg w150 hbox hb; have BK281 := Aside0.mk (hbox); have GW281 := Aside0.mk ((gw hg : w.heap.size ≤ gb281)); have GE281 := GW281; replace HB := bsA hb; have NB280_281 := Aside0.mk ((nl hg BK280.out)); have NB281_280 := Aside0.mk ((ng hg BK280.out)); replace BK280 := bbA BK280 hb; clear hb hbox hg; have hnb151 := NB280_281.out; have hnc151 := NB281_280.out; obtain ⟨hcz152_0,hcz152_1,hcz152_2,hcz152_3,hcz152_4,hcz152_5,hcz152_6,hcz152_7,hcz152_8,hcz152_9,hcz152_10,hcz152_11,hcz152_12,hcz152_13,hcz152_14⟩ := cl15 BK280.out; obtain ⟨hfz152_0,hfz152_1,hfz152_2,hfz152_3,hfz152_4,hfz152_5,hfz152_6,hfz152_7,hfz152_8,hfz152_9,hfz152_10,hfz152_11,hfz152_12,hfz152_13,hfz152_14⟩ := fz15 BK280.out; obtain ⟨hcz153_0,hcz153_1,hcz153_2,hcz153_3,hcz153_4,hcz153_5,hcz153_6,hcz153_7,hcz153_8,hcz153_9,hcz153_10,hcz153_11,hcz153_12,hcz153_13,hcz153_14⟩ := cl15 BK281.out; obtain ⟨hfz153_0,hfz153_1,hfz153_2,hfz153_3,hfz153_4,hfz153_5,hfz153_6,hfz153_7,hfz153_8,hfz153_9,hfz153_10,hfz153_11,hfz153_12,hfz153_13,hfz153_14⟩ := fz15 BK281.out) | ((with_reducible refine gate_callee (f:=11) rfl ?_); refine goesL_ (some 9) rfl rfl Try.func11 (by kernel_rfl) rfl #[.agg #[.slice A0_0 l0_0.length c0_0,.int .i64 a0_1],.agg #[.slice A1_0 l1_0.length c1_0,.int .i64 a1_1]] rfl mA ?_; (with_reducible refine (laws_eqStore.calls k _ _ l0_0 a0_1 _ _ l1_0 a1_1 false _ ?side1 ?side2 ?side3 ?side4 A3.out).mono ?_); (case side1 => exact sC HR0_0.out); (case side2 => exact HC0_0.out); (case side3 => exact sC HR1_0.out); (case side4 => exact HC1_0.out); rintro e w154 ⟨rfl,hb⟩; refine ⟨_,rfl,?_⟩; replace BK280 := bbA BK280 hb; replace BK281 := bbA BK281 hb; replace HB := bsA hb; clear hb))
  go_ret
  exact ⟨by first | rfl | (simp [errW_none,errW_some] <;> rfl) | (simp [*,errW_none,errW_some] <;> rfl),bA⟩

/-! ### laws_markText: function 41 -/
def laws_markText.l0 : Nat → Int → ByteArray → Option (ByteArray)
 | 0,_,_ => none
 | k + 1,x0,x3 => if x0 > 0 then ((some (([(wrap64 (48 + (Int.tmod x0 10))) % 256] : List Int) : List Int)).bind fun y289 => (if (strOfNums y289).size + x3.size ≤ 9223372036854775807 then (laws_markText.l0 k (wrap64 (Int.tdiv x0 10)) ((strOfNums y289) ++ x3)) else (none))) else (if 1 + x3.size ≤ 9223372036854775807 then (some ((⟨#[109]⟩ : ByteArray) ++ x3)) else (none))
def laws_markText.f (k : Nat) (a0 : Int) : Option (ByteArray) := if a0 ≤ 0 then (some (⟨#[109,48]⟩ : ByteArray)) else (laws_markText.l0 k a0 (⟨#[]⟩ : ByteArray))
theorem laws_markText.mono_l : ∀ k,(∀ y0 y1,LeO (laws_markText.l0 k y0 y1) (laws_markText.l0 (k + 1) y0 y1))
 | 0 => fun _ _ r h => by simp [laws_markText.l0] at h
 | k + 1 => by
  have ih0 := laws_markText.mono_l k
  ·intro y0 y1
   unfold laws_markText.l0
   repeat' first
   | (with_reducible first | exact ih0 .. | exact LeO.refl _ | exact LeO.none _ | refine LeO.ite ?_ ?_ | refine LeO.bind ?_ (fun _ => ?_))
   | exact LeO.none _ | refine LeO.ite ?_ ?_ | refine LeO.bind ?_ (fun _ => ?_)
theorem laws_markText.mono : ∀ a0 k,LeO (laws_markText.f k a0) (laws_markText.f (k + 1) a0) := by
 intro a0 k
 have ih0 := laws_markText.mono_l k
 unfold laws_markText.f
 repeat' first
 | (with_reducible first | exact ih0 .. | exact LeO.refl _ | exact LeO.none _ | refine LeO.ite ?_ ?_ | refine LeO.bind ?_ (fun _ => ?_))
 | exact LeO.none _ | refine LeO.ite ?_ ?_ | refine LeO.bind ?_ (fun _ => ?_)
set_option maxHeartbeats 8000000 in
set_option maxRecDepth 100000 in
theorem laws_markText.calls (k : Nat) (a0 : Int) (r : ByteArray) (w : World) (h : laws_markText.f k a0 = some r) :
  Calls Try.prog 41 #[.int .i64 a0] w fun e w' => e = .returned (.string r) ∧ Below w.heap.size w w' := by
 have HB := Aside0.mk (Below.refl w.heap.size w)
 have H : (if a0 ≤ 0 then (some (⟨#[109,48]⟩ : ByteArray)) else (laws_markText.l0 k a0 (⟨#[]⟩ : ByteArray))) = some r := h
 clear h
 by_cases c2 : a0 ≤ 0
 ·rw [if_pos c2] at H
  have c2b0 : decide (a0 ≤ 0) = true := decide_eq_true c2
  clear c2
  obtain rfl := Option.some.inj H
  go_enter Try.func41,Try.ntmps41
  go_wp2
  go_ret
  exact ⟨by first | rfl | (simp only [i64_w,i32_w] <;> rfl) | (simp [errW_none,errW_some] <;> rfl) | (simp [*,errW_none,errW_some] <;> rfl),bA⟩
 ·rw [if_neg c2] at H
  have c2b0 : decide (a0 ≤ 0) = false := decide_eq_false c2
  clear c2
  have H' := Aside0.mk H
  clear H
  go_enter Try.func41,Try.ntmps41
  go_wp2
  go_loopg [0,3] k (fun kq v0 v3 w' => ∃ (x0_1 : Int) (x3_1 : ByteArray),v0 = .int .i64 x0_1 ∧ v3 = .string x3_1 ∧ Aside0 (laws_markText.l0 kq x0_1 x3_1 = some r) ∧ Aside0 (kq ≤ k) ∧ Aside0 (Below w.heap.size w w'))
  case atStart => exact ⟨(a0),((⟨#[]⟩ : ByteArray)),(by first | rfl | (simp; done) | (simp [*]; done)),(by first | rfl | (simp; done) | (simp [*]; done)),H',⟨Nat.le_refl _⟩,⟨bA⟩⟩
  case round =>
   clear H'
   try clear c2
   try clear c2b0
   try clear p2
   obtain ⟨x0_1,x3_1,rfl,rfl,HA,HK1,HB⟩ := hrel
   cases gk with
   | zero => exact absurd HA.out (by simp [laws_markText.l0])
   | succ k1 =>
    have H := HA.out
    clear HA
    simp only [laws_markText.l0] at H
    by_cases c3 : x0_1 > 0
    ·rw [if_pos c3] at H
     have c3b0 : decide (0 < x0_1) = true := decide_eq_true c3
     clear c3
     obtain ⟨y289,hy289⟩ : ∃ y_ : List Int,y_ = (([(wrap64 (48 + (Int.tmod x0_1 10))) % 256] : List Int)) := ⟨_,rfl⟩
     replace H : (if (strOfNums y289).size + x3_1.size ≤ 9223372036854775807 then (laws_markText.l0 k1 (wrap64 (Int.tdiv x0_1 10)) ((strOfNums y289) ++ x3_1)) else (none)) = some r := by first | (rw [hy289]; with_reducible exact H) | (have H2_ := (Option.bind_some _ _).symm.trans H; rw [hy289]; with_reducible exact H2_) | (have H2_ := (Option.bind_some _ _).symm.trans H; with_reducible exact H2_) | with_reducible exact H | (rw [hy289]; exact H) | exact H
     have Ny289 := Aside0.mk hy289
     clear hy289
     by_cases c4 : (strOfNums y289).size + x3_1.size ≤ 9223372036854775807
     ·rw [if_pos c4] at H
      have c4b0 := eq_true c4
      have c4b1 : decide ((strOfNums y289).size + x3_1.size ≤ 9223372036854775807) = true := decide_eq_true c4
      try have c4b2 : (9223372036854775807 < (strOfNums y289).size + x3_1.size) = False := eq_false (Nat.not_lt.2 c4)
      have H' := Aside0.mk H
      clear H
      go_wp2_with (first | ((with_reducible refine gate_dst (N:=12) rfl ?_); refine Kd.R_lit (Kd.int .u8) _ 5 ?hg (N:=12) ?hd (xs := ([(wrap64 (48 + (Int.tmod x0_1 10))) % 256] : List Int)) (inner := [.int .u8 ((wrap64 (48 + (Int.tmod x0_1 10))) % 256)]) (ok := fun _ => True) (okp := fun _ => True) ?hr ?hp (fun _ hk => hk) trivial (Below.refl _ _) (Nat.le_refl _) (by simp) ?_; (case hd => rfl); (case hg => rfl); (case hr => first | (go_simp; done) | (go_simp; rfl)); (case hp => exact (Reps.one (show Kd.M (Kd.int .u8) _ _ _ ((wrap64 (48 + (Int.tmod x0_1 10))) % 256) [.int .u8 ((wrap64 (48 + (Int.tmod x0_1 10))) % 256)] from rfl) (Reps.none _ _))); intro v290 w5 ho6 hb hg_ hnew_; clear hg_ hnew_; (first | rw [← Ny289.out] at ho6 | (simp only [Int.reduceToNat] at ho6; rw [← Ny289.out] at ho6)); have HO291 := Aside0.mk (Kd.R_lower ho6 (below_size bA)); replace HB := bsA hb; clear hb ho6; have hcv7 := own_string (P:=Try.prog) Try.underlying88 Try.underlying5 Try.underlying9 (Kd.own_of_R HO291.out)))
      go_roundg k1
      case measure => have := HK1.out; omega
      case rel => exact ⟨(wrap64 (Int.tdiv x0_1 10)),((strOfNums y289) ++ x3_1),(by first | rfl | (simp; done) | (simp [*]; done)),(by first | rfl | (simp; done) | (simp [*]; done)),H',⟨by have := HK1.out; omega⟩,⟨bA⟩⟩
     ·rw [if_neg c4] at H
      exact absurd H (by simp)
    ·rw [if_neg c3] at H
     have c3b0 : decide (0 < x0_1) = false := decide_eq_false c3
     clear c3
     by_cases c8 : 1 + x3_1.size ≤ 9223372036854775807
     ·rw [if_pos c8] at H
      have c8b0 := eq_true c8
      have c8b1 : decide (1 + x3_1.size ≤ 9223372036854775807) = true := decide_eq_true c8
      try have c8b2 : (9223372036854775807 < 1 + x3_1.size) = False := eq_false (Nat.not_lt.2 c8)
      obtain rfl := Option.some.inj H
      go_wp2
      go_ret
      exact ⟨by first | rfl | (simp only [i64_w,i32_w] <;> rfl) | (simp [errW_none,errW_some] <;> rfl) | (simp [*,errW_none,errW_some] <;> rfl),bA⟩
     ·rw [if_neg c8] at H
      exact absurd H (by simp)

end Go.Proofs.Ytmfichcgmofpkaa.XFnExactNewFleet
