-- Printed by this session's own program wip/tools/xprint.py, which widens the kit's print. Not trusted: Lean checks it.
import Derived.Test.YtgkfemnfbkgeiaaXFnStorex0
import Derived.Test.YtgkfemnfbkgeiaaXFnStorex1
namespace Go.Proofs.Ytgkfemnfbkgeiaa.XFnStore
open List (setIfInBounds_toArray set_cons_zero set_cons_succ)
open Go.RowKit Go.Proofs.YtgkfemnfbkgeiaaW.PrintWords Go.Proofs.YtgkfemnfbkgeiaaW.PrintLast Go.Proofs.YtgkfemnfbkgeiaaW.PrintMore
attribute [local go_sem] max2_int min2_int max_two min_two max_three min_three max_four min_four   -- for this text's walks alone
set_option linter.unusedVariables false
set_option linter.unusedSimpArgs false

attribute [local go_sem high] eqA32
/-! ### laws_sameStore: function 16 -/
mutual
def laws_sameStore.j0 : Nat → Bool → List (S32) → Int → List (S32) → Int → Option (Bool)
 | 0,_,_,_,_,_ => none
 | k + 1,x19,x498000,x498001,x499000,x499001 => if x19 = true then (some false) else (laws_sameStore.l0 k 0 x498000 x498001 x499000 x499001)
def laws_sameStore.l0 : Nat → Int → List (S32) → Int → List (S32) → Int → Option (Bool)
 | 0,_,_,_,_,_ => none
 | k + 1,x5,x498000,x498001,x499000,x499001 => if x5 < (x498000.length : Int) then (if 0 ≤ x5 then (if x5 < (x499000.length : Int) then (if (!((((rd_T32 x498000 x5).f0).toList) == (((rd_T32 x499000 x5).f0).toList)) || (!(((rd_T32 x498000 x5).f1) == ((rd_T32 x499000 x5).f1)) || (!((((rd_T32 x498000 x5).f2).toList) == (((rd_T32 x499000 x5).f2).toList))))) = true then (some false) else (laws_sameStore.l0 k (wrap64 (x5 + 1)) x498000 x498001 x499000 x499001)) else (none)) else (none)) else (some true)
end
def laws_sameStore.f (k : Nat) (l0_0 : List (S32)) (a0_1 : Int) (l1_0 : List (S32)) (a1_1 : Int) : Option (Bool) := if a0_1 = a1_1 then (laws_sameStore.j0 k ((l0_0.length : Int) != (l1_0.length : Int)) l0_0 a0_1 l1_0 a1_1) else (laws_sameStore.j0 k true l0_0 a0_1 l1_0 a1_1)
theorem laws_sameStore.mono_l : ∀ k,(∀ y0 y1 y2 y3 y4,LeO (laws_sameStore.j0 k y0 y1 y2 y3 y4) (laws_sameStore.j0 (k + 1) y0 y1 y2 y3 y4)) ∧ (∀ y0 y1 y2 y3 y4,LeO (laws_sameStore.l0 k y0 y1 y2 y3 y4) (laws_sameStore.l0 (k + 1) y0 y1 y2 y3 y4))
 | 0 => ⟨fun _ _ _ _ _ r h => by simp [laws_sameStore.j0] at h,fun _ _ _ _ _ r h => by simp [laws_sameStore.l0] at h⟩
 | k + 1 => by
  obtain ⟨ih0,ih1⟩ := laws_sameStore.mono_l k
  refine ⟨?_,?_⟩
  all_goals
   intros
   first | unfold laws_sameStore.j0 | unfold laws_sameStore.l0
   repeat' first
   | (with_reducible first | exact ih0 .. | exact ih1 .. | exact LeO.refl _ | exact LeO.none _ | refine LeO.ite ?_ ?_ | refine LeO.bind ?_ (fun _ => ?_))
   | exact LeO.none _ | refine LeO.ite ?_ ?_ | refine LeO.bind ?_ (fun _ => ?_)
theorem laws_sameStore.mono : ∀ a0 a1 a2 a3 k,LeO (laws_sameStore.f k a0 a1 a2 a3) (laws_sameStore.f (k + 1) a0 a1 a2 a3) := by
 intro a0 a1 a2 a3 k
 obtain ⟨ih0,ih1⟩ := laws_sameStore.mono_l k
 unfold laws_sameStore.f
 repeat' first
 | (with_reducible first | exact ih0 .. | exact ih1 .. | exact LeO.refl _ | exact LeO.none _ | refine LeO.ite ?_ ?_ | refine LeO.bind ?_ (fun _ => ?_))
 | exact LeO.none _ | refine LeO.ite ?_ ?_ | refine LeO.bind ?_ (fun _ => ?_)
set_option maxHeartbeats 8000000 in
set_option maxRecDepth 100000 in
theorem laws_sameStore.calls (k : Nat) (A0_0 : Option Addr) (c0_0 : Nat) (l0_0 : List (S32)) (a0_1 : Int) (A1_0 : Option Addr) (c1_0 : Nat) (l1_0 : List (S32)) (a1_1 : Int) (r : Bool) (w : World) (hr0_0 : Kd.C k32 w A0_0 l0_0.length l0_0) (hc0_0 : l0_0.length ≤ c0_0) (hr1_0 : Kd.C k32 w A1_0 l1_0.length l1_0) (hc1_0 : l1_0.length ≤ c1_0) (h : laws_sameStore.f k l0_0 a0_1 l1_0 a1_1 = some r) :
  Calls Try.prog 16 #[.agg #[.slice A0_0 l0_0.length c0_0,.int .i64 a0_1],.agg #[.slice A1_0 l1_0.length c1_0,.int .i64 a1_1]] w fun e w' => e = .returned (.bool r) ∧ Below w.heap.size w w' := by
 have hu25 := Try.underlying25
 have hu32 := Try.underlying32
 have HR0_0 := Aside0.mk hr0_0
 have HC0_0 := Aside0.mk hc0_0
 clear hr0_0 hc0_0
 have HR1_0 := Aside0.mk hr1_0
 have HC1_0 := Aside0.mk hc1_0
 clear hr1_0 hc1_0
 have HB := Aside0.mk (Below.refl w.heap.size w)
 have H : (if a0_1 = a1_1 then (laws_sameStore.j0 k ((l0_0.length : Int) != (l1_0.length : Int)) l0_0 a0_1 l1_0 a1_1) else (laws_sameStore.j0 k true l0_0 a0_1 l1_0 a1_1)) = some r := h
 clear h
 have HC3 := Aside0.mk H
 clear H
 go_enter Try.func16,Try.ntmps16
 go_upto_region 1 with (first | ((with_reducible refine gate_dst (N:=2) rfl ?_); (try (refine gate_guard (by rfl) ?_; dsimp only)); refine bxe (N:=2) (cs := #[.slice A0_0 l0_0.length c0_0,.int .i64 a0_1]) (t:=25) ?_; intro gb497 hg w4 hbox hb; have BK497 := Aside0.mk (hbox); have GW497 := Aside0.mk ((gw hg : w.heap.size ≤ gb497)); have GE497 := GW497; replace HB := bsA hb; clear hb hbox hg) | ((with_reducible refine gate_dst (N:=3) rfl ?_); (try (refine gate_guard (by rfl) ?_; dsimp only)); refine bxe (N:=3) (cs := #[.slice A1_0 l1_0.length c1_0,.int .i64 a1_1]) (t:=25) ?_; intro gb498 hg w5 hbox hb; have BK498 := Aside0.mk (hbox); have GW498 := Aside0.mk ((gw hg : w.heap.size ≤ gb498)); have GE498 := GW498; replace HB := bsA hb; have NB497_498 := Aside0.mk ((nl hg BK497.out)); have NB498_497 := Aside0.mk ((ng hg BK497.out)); replace BK497 := bbA BK497 hb; clear hb hbox hg))
 repeat (go_quiet (first | ((with_reducible refine gate_dst (N:=2) rfl ?_); (try (refine gate_guard (by rfl) ?_; dsimp only)); refine bxe (N:=2) (cs := #[.slice A0_0 l0_0.length c0_0,.int .i64 a0_1]) (t:=25) ?_; intro gb497 hg w4 hbox hb; have BK497 := Aside0.mk (hbox); have GW497 := Aside0.mk ((gw hg : w.heap.size ≤ gb497)); have GE497 := GW497; replace HB := bsA hb; clear hb hbox hg) | ((with_reducible refine gate_dst (N:=3) rfl ?_); (try (refine gate_guard (by rfl) ?_; dsimp only)); refine bxe (N:=3) (cs := #[.slice A1_0 l1_0.length c1_0,.int .i64 a1_1]) (t:=25) ?_; intro gb498 hg w5 hbox hb; have BK498 := Aside0.mk (hbox); have GW498 := Aside0.mk ((gw hg : w.heap.size ≤ gb498)); have GE498 := GW498; replace HB := bsA hb; have NB497_498 := Aside0.mk ((nl hg BK497.out)); have NB498_497 := Aside0.mk ((ng hg BK497.out)); replace BK497 := bbA BK497 hb; clear hb hbox hg)); go_upto_region 1 with (first | ((with_reducible refine gate_dst (N:=2) rfl ?_); (try (refine gate_guard (by rfl) ?_; dsimp only)); refine bxe (N:=2) (cs := #[.slice A0_0 l0_0.length c0_0,.int .i64 a0_1]) (t:=25) ?_; intro gb497 hg w4 hbox hb; have BK497 := Aside0.mk (hbox); have GW497 := Aside0.mk ((gw hg : w.heap.size ≤ gb497)); have GE497 := GW497; replace HB := bsA hb; clear hb hbox hg) | ((with_reducible refine gate_dst (N:=3) rfl ?_); (try (refine gate_guard (by rfl) ?_; dsimp only)); refine bxe (N:=3) (cs := #[.slice A1_0 l1_0.length c1_0,.int .i64 a1_1]) (t:=25) ?_; intro gb498 hg w5 hbox hb; have BK498 := Aside0.mk (hbox); have GW498 := Aside0.mk ((gw hg : w.heap.size ≤ gb498)); have GE498 := GW498; replace HB := bsA hb; have NB497_498 := Aside0.mk ((nl hg BK497.out)); have NB498_497 := Aside0.mk ((ng hg BK497.out)); replace BK497 := bbA BK497 hb; clear hb hbox hg)))
 (try simp only [Act.put,setIfInBounds_toArray,set_cons_zero,set_cons_succ])
 go_cut [19] (fun v19 wc => ∃ (kq : Nat) (x19_2 : Bool),v19 = .bool x19_2 ∧ Aside0 (laws_sameStore.j0 kq x19_2 l0_0 a0_1 l1_0 a1_1 = some r) ∧ Aside0 (kq ≤ k) ∧ Aside0 (wc.heap[gb497]? = some (.cells #[(.slice A0_0 l0_0.length c0_0),.int .i64 a0_1] 25 (0,0))) ∧ Aside0 (wc.heap[gb498]? = some (.cells #[(.slice A1_0 l1_0.length c1_0),.int .i64 a1_1] 25 (0,0))) ∧ Aside0 (Below w.heap.size w wc))
 case first =>
  have H := HC3.out
  clear HC3
  by_cases c6 : a0_1 = a1_1
  ·rw [if_pos c6] at H
   have c6b0 : (a0_1 == a1_1) = true := beq_iff_eq.mpr c6
   have c6b1 : (a0_1 != a1_1) = false := bne_eq_false_iff_eq.mpr c6
   clear c6
   (first | rw [c6b0] | (simp only [i64_w,i32_w]; rw [c6b0]) | skip)
   have H' := Aside0.mk H
   clear H
   have hnb7 := NB497_498.out
   have hnc7 := NB498_497.out
   obtain ⟨hcz8_0,hcz8_1⟩ := cl2 BK497.out
   obtain ⟨hfz8_0,hfz8_1⟩ := fz2 BK497.out
   obtain ⟨hcz9_0,hcz9_1⟩ := cl2 BK498.out
   obtain ⟨hfz9_0,hfz9_1⟩ := fz2 BK498.out
   go_wp2
   repeat (go_quiet (fail); try go_wp2)
   go_meet
   case rel => exact ⟨_,(((l0_0.length : Int) != (l1_0.length : Int))),(by first | rfl | (simp; done) | (simp [*]; done)),H',⟨by first | omega | exact Nat.le_refl _⟩,⟨kA BK497.out⟩,⟨kA BK498.out⟩,⟨bA⟩⟩
  ·rw [if_neg c6] at H
   have c6b0 : (a0_1 == a1_1) = false := beq_eq_false_iff_ne.mpr c6
   have c6b1 : (a0_1 != a1_1) = true := bne_iff_ne.mpr c6
   (first | rw [c6b0] | (simp only [i64_w,i32_w]; rw [c6b0]) | skip)
   have H' := Aside0.mk H
   clear H
   have hnb10 := NB497_498.out
   have hnc10 := NB498_497.out
   obtain ⟨hcz11_0,hcz11_1⟩ := cl2 BK497.out
   obtain ⟨hfz11_0,hfz11_1⟩ := fz2 BK497.out
   obtain ⟨hcz12_0,hcz12_1⟩ := cl2 BK498.out
   obtain ⟨hfz12_0,hfz12_1⟩ := fz2 BK498.out
   go_wp2
   repeat (go_quiet (fail); try go_wp2)
   go_meet
   case rel => exact ⟨_,(true),(by first | rfl | (simp; done) | (simp [*]; done)),H',⟨by first | omega | exact Nat.le_refl _⟩,⟨kA BK497.out⟩,⟨kA BK498.out⟩,⟨bA⟩⟩
 case rest =>
  clear HC3
  try clear c1
  try clear p2
  try clear c6
  try clear c6b0
  try clear c6b1
  try clear c7
  try clear c10
  try clear hcz11_0 hcz11_1
  try clear hcz12_0 hcz12_1
  try clear hcz8_0 hcz8_1
  try clear hcz9_0 hcz9_1
  try clear hfz11_0 hfz11_1
  try clear hfz12_0 hfz12_1
  try clear hfz8_0 hfz8_1
  try clear hfz9_0 hfz9_1
  obtain ⟨kq,x19_2,rfl,HA,HJ2,BK497,BK498,HB⟩ := hcut
  cases kq with
  | zero => exact absurd HA.out (by simp [laws_sameStore.j0])
  | succ kj2 =>
   have H := HA.out
   clear HA
   simp only [laws_sameStore.j0] at H
   by_cases c13 : x19_2 = true
   ·subst c13
    rw [if_pos rfl] at H
    obtain rfl := Option.some.inj H
    go_wp2
    repeat (go_quiet (fail); try go_wp2)
    go_ret
    exact ⟨by first | rfl | (simp only [i64_w,i32_w] <;> rfl) | (simp [errW_none,errW_some] <;> rfl) | (simp [*,errW_none,errW_some] <;> rfl),bA⟩
   ·replace c13 := Bool.eq_false_iff.mpr c13
    subst c13
    rw [if_neg (show ¬ (false = true) by decide)] at H
    have H' := Aside0.mk H
    clear H
    go_wp2
    repeat (go_quiet (fail); try go_wp2)
    go_loopg [5] kj2 (fun kq v5 w' => ∃ (x5_2 : Int),v5 = .int .i64 x5_2 ∧ Aside0 (laws_sameStore.l0 kq x5_2 l0_0 a0_1 l1_0 a1_1 = some r) ∧ Aside0 (kq ≤ kj2) ∧ Aside0 (w'.heap[gb497]? = some (.cells #[(.slice A0_0 l0_0.length c0_0),.int .i64 a0_1] 25 (0,0))) ∧ Aside0 (w'.heap[gb498]? = some (.cells #[(.slice A1_0 l1_0.length c1_0),.int .i64 a1_1] 25 (0,0))) ∧ Aside0 (Below w.heap.size w w'))
    case atStart => exact ⟨(0),(by first | rfl | (simp; done) | (simp [*]; done)),H',⟨Nat.le_refl _⟩,⟨kA BK497.out⟩,⟨kA BK498.out⟩,⟨bA⟩⟩
    case round =>
     clear H'
     try clear c1
     try clear p2
     try clear c6
     try clear c6b0
     try clear c6b1
     try clear c7
     try clear c10
     try clear c13
     try clear hcz11_0 hcz11_1
     try clear hcz12_0 hcz12_1
     try clear hcz8_0 hcz8_1
     try clear hcz9_0 hcz9_1
     try clear hfz11_0 hfz11_1
     try clear hfz12_0 hfz12_1
     try clear hfz8_0 hfz8_1
     try clear hfz9_0 hfz9_1
     try clear p2
     obtain ⟨x5_2,rfl,HA,HK2,BK497,BK498,HB⟩ := hrel
     cases gk with
     | zero => exact absurd HA.out (by simp [laws_sameStore.l0])
     | succ k2 =>
      have H := HA.out
      clear HA
      simp only [laws_sameStore.l0] at H
      by_cases c14 : x5_2 < (l0_0.length : Int)
      ·rw [if_pos c14] at H
       have c14b0 : decide (x5_2 < (l0_0.length : Int)) = true := decide_eq_true c14
       clear c14
       by_cases c15 : 0 ≤ x5_2
       ·rw [if_pos c15] at H
        have c15b0 : decide (0 ≤ x5_2) = true := decide_eq_true c15
        clear c15
        by_cases c16 : x5_2 < (l1_0.length : Int)
        ·rw [if_pos c16] at H
         have c16b0 : decide (x5_2 < (l1_0.length : Int)) = true := decide_eq_true c16
         clear c16
         by_cases c17 : (!((((rd_T32 l0_0 x5_2).f0).toList) == (((rd_T32 l1_0 x5_2).f0).toList)) || (!(((rd_T32 l0_0 x5_2).f1) == ((rd_T32 l1_0 x5_2).f1)) || (!((((rd_T32 l0_0 x5_2).f2).toList) == (((rd_T32 l1_0 x5_2).f2).toList))))) = true
         ·rw [if_pos c17] at H
          have c17b0 : (!((((rd_T32 l0_0 x5_2).f0).toList) == (((rd_T32 l1_0 x5_2).f0).toList)) || (!(((rd_T32 l0_0 x5_2).f1) == ((rd_T32 l1_0 x5_2).f1)) || (!((((rd_T32 l0_0 x5_2).f2).toList) == (((rd_T32 l1_0 x5_2).f2).toList))))) = true := c17
          clear c17
          obtain rfl := Option.some.inj H
          have hnb18 := NB497_498.out
          have hnc18 := NB498_497.out
          obtain ⟨hcz19_0,hcz19_1⟩ := cl2 BK497.out
          obtain ⟨hfz19_0,hfz19_1⟩ := fz2 BK497.out
          have p499 : 0 ≤ (x5_2 : Int) := od
          have q499 : x5_2 < (l0_0.length : Int) := od
          obtain ⟨ad499,e499,hx499_0,hx499_1,hx499_2⟩ := at_T32 HR0_0.out x5_2 p499 q499
          cases e499
          replace hx499_0 := cb HB.out hx499_0
          replace hx499_1 := cb HB.out hx499_1
          replace hx499_2 := cb HB.out hx499_2
          replace p499 := eq_true p499
          replace q499 := eq_true q499
          obtain ⟨hcz20_0,hcz20_1⟩ := cl2 BK498.out
          obtain ⟨hfz20_0,hfz20_1⟩ := fz2 BK498.out
          have p500 : 0 ≤ (x5_2 : Int) := od
          have q500 : x5_2 < (l1_0.length : Int) := od
          obtain ⟨ad500,e500,hx500_0,hx500_1,hx500_2⟩ := at_T32 HR1_0.out x5_2 p500 q500
          cases e500
          replace hx500_0 := cb HB.out hx500_0
          replace hx500_1 := cb HB.out hx500_1
          replace hx500_2 := cb HB.out hx500_2
          replace p500 := eq_true p500
          replace q500 := eq_true q500
          go_wp2
          repeat (go_quiet (fail); try go_wp2)
          go_ret
          exact ⟨by first | rfl | (simp only [i64_w,i32_w] <;> rfl) | (simp [errW_none,errW_some] <;> rfl) | (simp [*,errW_none,errW_some] <;> rfl),bA⟩
         ·rw [if_neg c17] at H
          have c17b0 : (!((((rd_T32 l0_0 x5_2).f0).toList) == (((rd_T32 l1_0 x5_2).f0).toList)) || (!(((rd_T32 l0_0 x5_2).f1) == ((rd_T32 l1_0 x5_2).f1)) || (!((((rd_T32 l0_0 x5_2).f2).toList) == (((rd_T32 l1_0 x5_2).f2).toList))))) = false := by simpa using c17
          clear c17
          have H' := Aside0.mk H
          clear H
          have hnb21 := NB497_498.out
          have hnc21 := NB498_497.out
          obtain ⟨hcz22_0,hcz22_1⟩ := cl2 BK497.out
          obtain ⟨hfz22_0,hfz22_1⟩ := fz2 BK497.out
          have p499 : 0 ≤ (x5_2 : Int) := od
          have q499 : x5_2 < (l0_0.length : Int) := od
          obtain ⟨ad499,e499,hx499_0,hx499_1,hx499_2⟩ := at_T32 HR0_0.out x5_2 p499 q499
          cases e499
          replace hx499_0 := cb HB.out hx499_0
          replace hx499_1 := cb HB.out hx499_1
          replace hx499_2 := cb HB.out hx499_2
          replace p499 := eq_true p499
          replace q499 := eq_true q499
          obtain ⟨hcz23_0,hcz23_1⟩ := cl2 BK498.out
          obtain ⟨hfz23_0,hfz23_1⟩ := fz2 BK498.out
          have p500 : 0 ≤ (x5_2 : Int) := od
          have q500 : x5_2 < (l1_0.length : Int) := od
          obtain ⟨ad500,e500,hx500_0,hx500_1,hx500_2⟩ := at_T32 HR1_0.out x5_2 p500 q500
          cases e500
          replace hx500_0 := cb HB.out hx500_0
          replace hx500_1 := cb HB.out hx500_1
          replace hx500_2 := cb HB.out hx500_2
          replace p500 := eq_true p500
          replace q500 := eq_true q500
          go_wp2
          repeat (go_quiet (fail); try go_wp2)
          go_roundg k2
          case measure => have := HJ2.out; have := HK2.out; omega
          case rel => exact ⟨(wrap64 (x5_2 + 1)),(by first | rfl | (simp; done) | (simp [*]; done)),H',⟨by have := HJ2.out; have := HK2.out; omega⟩,⟨kA BK497.out⟩,⟨kA BK498.out⟩,⟨bA⟩⟩
        ·rw [if_neg c16] at H
         exact absurd H (by simp)
       ·rw [if_neg c15] at H
        exact absurd H (by simp)
      ·rw [if_neg c14] at H
       have c14b0 : decide (x5_2 < (l0_0.length : Int)) = false := decide_eq_false c14
       clear c14
       obtain rfl := Option.some.inj H
       have hnb24 := NB497_498.out
       have hnc24 := NB498_497.out
       obtain ⟨hcz25_0,hcz25_1⟩ := cl2 BK497.out
       obtain ⟨hfz25_0,hfz25_1⟩ := fz2 BK497.out
       go_wp2
       repeat (go_quiet (fail); try go_wp2)
       go_ret
       exact ⟨by first | rfl | (simp only [i64_w,i32_w] <;> rfl) | (simp [errW_none,errW_some] <;> rfl) | (simp [*,errW_none,errW_some] <;> rfl),bA⟩

/-! ### impl_Object_43: function 43 -/
def impl_Object_43.l0 : Nat → List (S32) → List (S32) → Int → Int → Option (Bool)
 | 0,_,_,_,_ => none
 | k + 1,x0,x1,x12,x13 => if x13 < x12 then (if 0 ≤ x13 then (if x13 < (x0.length : Int) then (if x13 < (x1.length : Int) then (if (!((((rd_T32 x0 x13).f0).toList) == (((rd_T32 x1 x13).f0).toList)) || (!(((rd_T32 x0 x13).f1) == ((rd_T32 x1 x13).f1)) || (!((((rd_T32 x0 x13).f2).toList) == (((rd_T32 x1 x13).f2).toList))))) = true then (some false) else (impl_Object_43.l0 k x0 x1 x12 (wrap64 (x13 + 1)))) else (none)) else (none)) else (none)) else (some true)
def impl_Object_43.f (k : Nat) (l0 : List (S32)) (l1 : List (S32)) : Option (Bool) := if (l0.length : Int) = (l1.length : Int) then (impl_Object_43.l0 k l0 l1 (l0.length : Int) 0) else (some false)
theorem impl_Object_43.mono_l : ∀ k,(∀ y0 y1 y2 y3,LeO (impl_Object_43.l0 k y0 y1 y2 y3) (impl_Object_43.l0 (k + 1) y0 y1 y2 y3))
 | 0 => fun _ _ _ _ r h => by simp [impl_Object_43.l0] at h
 | k + 1 => by
  have ih0 := impl_Object_43.mono_l k
  ·intro y0 y1 y2 y3
   unfold impl_Object_43.l0
   repeat' first
   | (with_reducible first | exact ih0 .. | exact LeO.refl _ | exact LeO.none _ | refine LeO.ite ?_ ?_ | refine LeO.bind ?_ (fun _ => ?_))
   | exact LeO.none _ | refine LeO.ite ?_ ?_ | refine LeO.bind ?_ (fun _ => ?_)
theorem impl_Object_43.mono : ∀ a0 a1 k,LeO (impl_Object_43.f k a0 a1) (impl_Object_43.f (k + 1) a0 a1) := by
 intro a0 a1 k
 have ih0 := impl_Object_43.mono_l k
 unfold impl_Object_43.f
 repeat' first
 | (with_reducible first | exact ih0 .. | exact LeO.refl _ | exact LeO.none _ | refine LeO.ite ?_ ?_ | refine LeO.bind ?_ (fun _ => ?_))
 | exact LeO.none _ | refine LeO.ite ?_ ?_ | refine LeO.bind ?_ (fun _ => ?_)
set_option maxHeartbeats 8000000 in
set_option maxRecDepth 100000 in
theorem impl_Object_43.calls (k : Nat) (A0 : Option Addr) (c0 : Nat) (l0 : List (S32)) (A1 : Option Addr) (c1 : Nat) (l1 : List (S32)) (r : Bool) (w : World) (hr0 : Kd.C k32 w A0 l0.length l0) (hc0 : l0.length ≤ c0) (hr1 : Kd.C k32 w A1 l1.length l1) (hc1 : l1.length ≤ c1) (h : impl_Object_43.f k l0 l1 = some r) :
  Calls Try.prog 43 #[.slice A0 l0.length c0,.slice A1 l1.length c1] w fun e w' => e = .returned (.bool r) ∧ Drawn0 w w' := by
 have hu32 := Try.underlying32
 have HR0 := Aside0.mk hr0
 have HC0 := Aside0.mk hc0
 clear hr0 hc0
 have HR1 := Aside0.mk hr1
 have HC1 := Aside0.mk hc1
 clear hr1 hc1
 have H : (if (l0.length : Int) = (l1.length : Int) then (impl_Object_43.l0 k l0 l1 (l0.length : Int) 0) else (some false)) = some r := h
 clear h
 by_cases c3 : (l0.length : Int) = (l1.length : Int)
 ·rw [if_pos c3] at H
  have c3b0 : ((l0.length : Int) == (l1.length : Int)) = true := beq_iff_eq.mpr c3
  have c3b1 : ((l0.length : Int) != (l1.length : Int)) = false := bne_eq_false_iff_eq.mpr c3
  have c3b2 : (l0.length == l1.length) = true := by first | simpa using c3 | (simp at c3 ⊢; omega)
  clear c3
  have H' := Aside0.mk H
  clear H
  go_enter Try.func43,Try.ntmps43
  go_wp2
  repeat (go_quiet (fail); try go_wp2)
  go_loopg [13] k (fun kq v13 w' => ∃ (x13_1 : Int),v13 = .int .i64 x13_1 ∧ Aside0 (impl_Object_43.l0 kq l0 l1 (l0.length : Int) x13_1 = some r) ∧ Aside0 (kq ≤ k) ∧ Drawn0 w w')
  case atStart => exact ⟨(0),(by first | rfl | (simp; done) | (simp [*]; done)),H',⟨Nat.le_refl _⟩,by repeat (first | exact Drawn0.refl _ | apply Drawn0.step)⟩
  case round =>
   clear H'
   try clear c1
   try clear p2
   try clear c3
   try clear c3b0
   try clear c3b1
   try clear c3b2
   obtain ⟨x13_1,rfl,HA,HK1,⟨m1,rfl⟩⟩ := hrel
   cases gk with
   | zero => exact absurd HA.out (by simp [impl_Object_43.l0])
   | succ k1 =>
    have H := HA.out
    clear HA
    simp only [impl_Object_43.l0] at H
    by_cases c4 : x13_1 < (l0.length : Int)
    ·rw [if_pos c4] at H
     have c4b0 : decide (x13_1 < (l0.length : Int)) = true := decide_eq_true c4
     clear c4
     by_cases c5 : 0 ≤ x13_1
     ·rw [if_pos c5] at H
      have c5b0 : decide (0 ≤ x13_1) = true := decide_eq_true c5
      clear c5
      by_cases c6 : x13_1 < (l0.length : Int)
      ·rw [if_pos c6] at H
       have c6b0 : decide (x13_1 < (l0.length : Int)) = true := decide_eq_true c6
       clear c6
       by_cases c7 : x13_1 < (l1.length : Int)
       ·rw [if_pos c7] at H
        have c7b0 : decide (x13_1 < (l1.length : Int)) = true := decide_eq_true c7
        clear c7
        by_cases c8 : (!((((rd_T32 l0 x13_1).f0).toList) == (((rd_T32 l1 x13_1).f0).toList)) || (!(((rd_T32 l0 x13_1).f1) == ((rd_T32 l1 x13_1).f1)) || (!((((rd_T32 l0 x13_1).f2).toList) == (((rd_T32 l1 x13_1).f2).toList))))) = true
        ·rw [if_pos c8] at H
         have c8b0 : (!((((rd_T32 l0 x13_1).f0).toList) == (((rd_T32 l1 x13_1).f0).toList)) || (!(((rd_T32 l0 x13_1).f1) == ((rd_T32 l1 x13_1).f1)) || (!((((rd_T32 l0 x13_1).f2).toList) == (((rd_T32 l1 x13_1).f2).toList))))) = true := c8
         clear c8
         obtain rfl := Option.some.inj H
         have p501 : 0 ≤ (x13_1 : Int) := od
         have q501 : x13_1 < (l0.length : Int) := od
         obtain ⟨ad501,e501,hx501_0,hx501_1,hx501_2⟩ := at_T32 HR0.out x13_1 p501 q501
         cases e501
         replace p501 := eq_true p501
         replace q501 := eq_true q501
         have p502 : 0 ≤ (x13_1 : Int) := od
         have q502 : x13_1 < (l1.length : Int) := od
         obtain ⟨ad502,e502,hx502_0,hx502_1,hx502_2⟩ := at_T32 HR1.out x13_1 p502 q502
         cases e502
         replace p502 := eq_true p502
         replace q502 := eq_true q502
         go_wp2
         repeat (go_quiet (fail); try go_wp2)
         go_ret
         exact ⟨by first | rfl | (simp; done) | (simp [*]; done),by repeat (first | exact Drawn0.refl _ | apply Drawn0.step)⟩
        ·rw [if_neg c8] at H
         have c8b0 : (!((((rd_T32 l0 x13_1).f0).toList) == (((rd_T32 l1 x13_1).f0).toList)) || (!(((rd_T32 l0 x13_1).f1) == ((rd_T32 l1 x13_1).f1)) || (!((((rd_T32 l0 x13_1).f2).toList) == (((rd_T32 l1 x13_1).f2).toList))))) = false := by simpa using c8
         clear c8
         have H' := Aside0.mk H
         clear H
         have p501 : 0 ≤ (x13_1 : Int) := od
         have q501 : x13_1 < (l0.length : Int) := od
         obtain ⟨ad501,e501,hx501_0,hx501_1,hx501_2⟩ := at_T32 HR0.out x13_1 p501 q501
         cases e501
         replace p501 := eq_true p501
         replace q501 := eq_true q501
         have p502 : 0 ≤ (x13_1 : Int) := od
         have q502 : x13_1 < (l1.length : Int) := od
         obtain ⟨ad502,e502,hx502_0,hx502_1,hx502_2⟩ := at_T32 HR1.out x13_1 p502 q502
         cases e502
         replace p502 := eq_true p502
         replace q502 := eq_true q502
         go_wp2
         repeat (go_quiet (fail); try go_wp2)
         go_roundg k1
         case measure => have := HK1.out; omega
         case rel => exact ⟨(wrap64 (x13_1 + 1)),(by first | rfl | (simp; done) | (simp [*]; done)),H',⟨by have := HK1.out; omega⟩,by repeat (first | exact Drawn0.refl _ | apply Drawn0.step)⟩
       ·rw [if_neg c7] at H
        exact absurd H (by simp)
      ·rw [if_neg c6] at H
       exact absurd H (by simp)
     ·rw [if_neg c5] at H
      exact absurd H (by simp)
    ·rw [if_neg c4] at H
     have c4b0 : decide (x13_1 < (l0.length : Int)) = false := decide_eq_false c4
     clear c4
     obtain rfl := Option.some.inj H
     go_wp2
     repeat (go_quiet (fail); try go_wp2)
     go_ret
     exact ⟨by first | rfl | (simp; done) | (simp [*]; done),by repeat (first | exact Drawn0.refl _ | apply Drawn0.step)⟩
 ·rw [if_neg c3] at H
  have c3b0 : ((l0.length : Int) == (l1.length : Int)) = false := beq_eq_false_iff_ne.mpr c3
  have c3b1 : ((l0.length : Int) != (l1.length : Int)) = true := bne_iff_ne.mpr c3
  have c3b2 : (l0.length == l1.length) = false := by first | simpa using c3 | (simp at c3 ⊢; omega)
  obtain rfl := Option.some.inj H
  go_enter Try.func43,Try.ntmps43
  go_wp2
  repeat (go_quiet (fail); try go_wp2)
  go_ret
  exact ⟨by first | rfl | (simp; done) | (simp [*]; done),by repeat (first | exact Drawn0.refl _ | apply Drawn0.step)⟩

/-! ### impl_SameStore: function 19 -/
def impl_SameStore.f (k : Nat) (l0_0 : List (S32)) (a0_1 : Int) (l1_0 : List (S32)) (a1_1 : Int) : Option (Bool) := (impl_Object_43.f k l0_0 l1_0).bind fun t505 => (if t505 = true then (some (a0_1 == a1_1)) else (some false))
theorem impl_SameStore.mono : ∀ a0 a1 a2 a3 k,LeO (impl_SameStore.f k a0 a1 a2 a3) (impl_SameStore.f (k + 1) a0 a1 a2 a3) := by
 intro a0 a1 a2 a3 k
 unfold impl_SameStore.f
 repeat' first
 | (with_reducible first | exact impl_Object_43.mono .. | exact LeO.refl _ | exact LeO.none _ | refine LeO.ite ?_ ?_ | refine LeO.bind ?_ (fun _ => ?_))
 | exact LeO.none _ | refine LeO.ite ?_ ?_ | refine LeO.bind ?_ (fun _ => ?_)
set_option maxHeartbeats 8000000 in
set_option maxRecDepth 100000 in
theorem impl_SameStore.calls (k : Nat) (A0_0 : Option Addr) (c0_0 : Nat) (l0_0 : List (S32)) (a0_1 : Int) (A1_0 : Option Addr) (c1_0 : Nat) (l1_0 : List (S32)) (a1_1 : Int) (r : Bool) (w : World) (hr0_0 : Kd.C k32 w A0_0 l0_0.length l0_0) (hc0_0 : l0_0.length ≤ c0_0) (hr1_0 : Kd.C k32 w A1_0 l1_0.length l1_0) (hc1_0 : l1_0.length ≤ c1_0) (h : impl_SameStore.f k l0_0 a0_1 l1_0 a1_1 = some r) :
  Calls Try.prog 19 #[.agg #[.slice A0_0 l0_0.length c0_0,.int .i64 a0_1],.agg #[.slice A1_0 l1_0.length c1_0,.int .i64 a1_1]] w fun e w' => e = .returned (.bool r) ∧ Below w.heap.size w w' := by
 have hu25 := Try.underlying25
 have HR0_0 := Aside0.mk hr0_0
 have HC0_0 := Aside0.mk hc0_0
 clear hr0_0 hc0_0
 have HR1_0 := Aside0.mk hr1_0
 have HC1_0 := Aside0.mk hc1_0
 clear hr1_0 hc1_0
 have HB := Aside0.mk (Below.refl w.heap.size w)
 have H : ((impl_Object_43.f k l0_0 l1_0).bind fun t505 => (if t505 = true then (some (a0_1 == a1_1)) else (some false))) = some r := h
 clear h
 replace H := Option.bind_eq_some_iff.mp H
 obtain ⟨t505,A30,H⟩ := H
 try dsimp only at H
 have A3 := Aside0.mk A30
 clear A30
 by_cases c4 : t505 = true
 ·subst c4
  rw [if_pos rfl] at H
  obtain rfl := Option.some.inj H
  go_enter Try.func19,Try.ntmps19
  go_wp2_with (first | ((with_reducible refine gate_dst (N:=2) rfl ?_); refine bxe (N:=2) (cs := #[.slice A0_0 l0_0.length c0_0,.int .i64 a0_1]) (t:=25) ?_; intro gb503 hg w5 hbox hb; have BK503 := Aside0.mk (hbox); have GW503 := Aside0.mk ((gw hg : w.heap.size ≤ gb503)); have GE503 := GW503; replace HB := bsA hb; clear hb hbox hg) | ((with_reducible refine gate_dst (N:=3) rfl ?_); refine bxe (N:=3) (cs := #[.slice A1_0 l1_0.length c1_0,.int .i64 a1_1]) (t:=25) ?_; intro gb504 hg w6 hbox hb; have BK504 := Aside0.mk (hbox); have GW504 := Aside0.mk ((gw hg : w.heap.size ≤ gb504)); have GE504 := GW504; replace HB := bsA hb; have NB503_504 := Aside0.mk ((nl hg BK503.out)); have NB504_503 := Aside0.mk ((ng hg BK503.out)); replace BK503 := bbA BK503 hb; clear hb hbox hg; have hnb7 := NB503_504.out; have hnc7 := NB504_503.out; obtain ⟨hcz8_0,hcz8_1⟩ := cl2 BK503.out; obtain ⟨hfz8_0,hfz8_1⟩ := fz2 BK503.out; obtain ⟨hcz9_0,hcz9_1⟩ := cl2 BK504.out; obtain ⟨hfz9_0,hfz9_1⟩ := fz2 BK504.out) | ((with_reducible refine gate_callee (f:=43) rfl ?_); refine goesL_ (some 9) rfl rfl Try.func43 (by kernel_rfl) rfl #[.slice A0_0 l0_0.length c0_0,.slice A1_0 l1_0.length c1_0] rfl mA ?_; (with_reducible refine (impl_Object_43.calls k _ _ l0_0 _ _ l1_0 true _ ?side1 ?side2 ?side3 ?side4 A3.out).mono ?_); (case side1 => exact sC HR0_0.out); (case side2 => exact HC0_0.out); (case side3 => exact sC HR1_0.out); (case side4 => exact HC1_0.out); rintro e w' ⟨rfl,⟨nd,rfl⟩⟩; refine ⟨_,rfl,?_⟩))
  go_ret
  exact ⟨by first | rfl | (simp [errW_none,errW_some] <;> rfl) | (simp [*,errW_none,errW_some] <;> rfl),bA⟩
 ·replace c4 := Bool.eq_false_iff.mpr c4
  subst c4
  rw [if_neg (show ¬ (false = true) by decide)] at H
  obtain rfl := Option.some.inj H
  go_enter Try.func19,Try.ntmps19
  go_wp2_with (first | ((with_reducible refine gate_dst (N:=2) rfl ?_); refine bxe (N:=2) (cs := #[.slice A0_0 l0_0.length c0_0,.int .i64 a0_1]) (t:=25) ?_; intro gb503 hg w10 hbox hb; have BK503 := Aside0.mk (hbox); have GW503 := Aside0.mk ((gw hg : w.heap.size ≤ gb503)); have GE503 := GW503; replace HB := bsA hb; clear hb hbox hg) | ((with_reducible refine gate_dst (N:=3) rfl ?_); refine bxe (N:=3) (cs := #[.slice A1_0 l1_0.length c1_0,.int .i64 a1_1]) (t:=25) ?_; intro gb504 hg w11 hbox hb; have BK504 := Aside0.mk (hbox); have GW504 := Aside0.mk ((gw hg : w.heap.size ≤ gb504)); have GE504 := GW504; replace HB := bsA hb; have NB503_504 := Aside0.mk ((nl hg BK503.out)); have NB504_503 := Aside0.mk ((ng hg BK503.out)); replace BK503 := bbA BK503 hb; clear hb hbox hg; have hnb12 := NB503_504.out; have hnc12 := NB504_503.out; obtain ⟨hcz13_0,hcz13_1⟩ := cl2 BK503.out; obtain ⟨hfz13_0,hfz13_1⟩ := fz2 BK503.out; obtain ⟨hcz14_0,hcz14_1⟩ := cl2 BK504.out; obtain ⟨hfz14_0,hfz14_1⟩ := fz2 BK504.out) | ((with_reducible refine gate_callee (f:=43) rfl ?_); refine goesL_ (some 9) rfl rfl Try.func43 (by kernel_rfl) rfl #[.slice A0_0 l0_0.length c0_0,.slice A1_0 l1_0.length c1_0] rfl mA ?_; (with_reducible refine (impl_Object_43.calls k _ _ l0_0 _ _ l1_0 false _ ?side1 ?side2 ?side3 ?side4 A3.out).mono ?_); (case side1 => exact sC HR0_0.out); (case side2 => exact HC0_0.out); (case side3 => exact sC HR1_0.out); (case side4 => exact HC1_0.out); rintro e w' ⟨rfl,⟨nd,rfl⟩⟩; refine ⟨_,rfl,?_⟩))
  go_ret
  exact ⟨by first | rfl | (simp [errW_none,errW_some] <;> rfl) | (simp [*,errW_none,errW_some] <;> rfl),bA⟩

end Go.Proofs.Ytgkfemnfbkgeiaa.XFnStore
