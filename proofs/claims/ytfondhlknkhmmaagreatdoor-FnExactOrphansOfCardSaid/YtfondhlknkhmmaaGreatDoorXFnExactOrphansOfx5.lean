-- Printed by this session's own program wip/tools/xprint.py, which widens the kit's print. Not trusted: Lean checks it.
import Derived.Test.YtfondhlknkhmmaaGreatDoorXFnExactOrphansOfx0
namespace Go.Proofs.YtfondhlknkhmmaaGreatDoor.XFnExactOrphansOf
open Go.RowKit Go.Proofs.YtfondhlknkhmmaaGreatDoorW.PrintWords Go.Proofs.YtfondhlknkhmmaaGreatDoorW.PrintLast Go.Proofs.YtfondhlknkhmmaaGreatDoorW.PrintMore
attribute [local go_sem] max2_int min2_int max_two min_two max_three min_three max_four min_four   -- for this text's walks alone
set_option linter.unusedVariables false
set_option linter.unusedSimpArgs false

/-! ### spec_l06Named: function 38 -/
mutual
def spec_l06Named.l0 : Nat → ByteArray → Int → Int → Int → List (S64) → List (S71) → Int → Int → Int → Int → Int → Int → Option (Bool)
 | 0,_,_,_,_,_,_,_,_,_,_,_,_ => none
 | k + 1,x1,x5,x195000,x195001,x195002,x195003,x195004,x195005,x195006,x195007,x195008,x195009 => if x5 < (x195002.length : Int) then (if 0 ≤ x5 then (if ((rd_T64 x195002 x5).f3).toList = x1.toList then (some true) else (spec_l06Named.l0 k x1 (wrap64 (x5 + 1)) x195000 x195001 x195002 x195003 x195004 x195005 x195006 x195007 x195008 x195009)) else (none)) else (spec_l06Named.l1 k x1 0 x195000 x195001 x195002 x195003 x195004 x195005 x195006 x195007 x195008 x195009)
def spec_l06Named.l1 : Nat → ByteArray → Int → Int → Int → List (S64) → List (S71) → Int → Int → Int → Int → Int → Int → Option (Bool)
 | 0,_,_,_,_,_,_,_,_,_,_,_,_ => none
 | k + 1,x1,x6,x195000,x195001,x195002,x195003,x195004,x195005,x195006,x195007,x195008,x195009 => if x6 < (x195003.length : Int) then (if 0 ≤ x6 then (if ((rd_T71 x195003 x6).f1).toList = x1.toList then (some true) else (spec_l06Named.l1 k x1 (wrap64 (x6 + 1)) x195000 x195001 x195002 x195003 x195004 x195005 x195006 x195007 x195008 x195009)) else (none)) else (some false)
end
def spec_l06Named.f (k : Nat) (a0_0 : Int) (a0_1 : Int) (l0_2 : List (S64)) (l0_3 : List (S71)) (a0_4 : Int) (a0_5 : Int) (a0_6 : Int) (a0_7 : Int) (a0_8 : Int) (a0_9 : Int) (a1 : ByteArray) : Option (Bool) := spec_l06Named.l0 k a1 0 a0_0 a0_1 l0_2 l0_3 a0_4 a0_5 a0_6 a0_7 a0_8 a0_9
theorem spec_l06Named.mono_l : ∀ k,(∀ y0 y1 y2 y3 y4 y5 y6 y7 y8 y9 y10 y11,LeO (spec_l06Named.l0 k y0 y1 y2 y3 y4 y5 y6 y7 y8 y9 y10 y11) (spec_l06Named.l0 (k + 1) y0 y1 y2 y3 y4 y5 y6 y7 y8 y9 y10 y11)) ∧ (∀ y0 y1 y2 y3 y4 y5 y6 y7 y8 y9 y10 y11,LeO (spec_l06Named.l1 k y0 y1 y2 y3 y4 y5 y6 y7 y8 y9 y10 y11) (spec_l06Named.l1 (k + 1) y0 y1 y2 y3 y4 y5 y6 y7 y8 y9 y10 y11))
 | 0 => ⟨fun _ _ _ _ _ _ _ _ _ _ _ _ r h => by simp [spec_l06Named.l0] at h,fun _ _ _ _ _ _ _ _ _ _ _ _ r h => by simp [spec_l06Named.l1] at h⟩
 | k + 1 => by
  obtain ⟨ih0,ih1⟩ := spec_l06Named.mono_l k
  refine ⟨?_,?_⟩
  all_goals
   intros
   first | unfold spec_l06Named.l0 | unfold spec_l06Named.l1
   repeat' first
   | (with_reducible first | exact ih0 .. | exact ih1 .. | exact LeO.refl _ | exact LeO.none _ | refine LeO.ite ?_ ?_ | refine LeO.bind ?_ (fun _ => ?_))
   | exact LeO.none _ | refine LeO.ite ?_ ?_ | refine LeO.bind ?_ (fun _ => ?_)
theorem spec_l06Named.mono : ∀ a0 a1 a2 a3 a4 a5 a6 a7 a8 a9 a10 k,LeO (spec_l06Named.f k a0 a1 a2 a3 a4 a5 a6 a7 a8 a9 a10) (spec_l06Named.f (k + 1) a0 a1 a2 a3 a4 a5 a6 a7 a8 a9 a10) := by
 intro a0 a1 a2 a3 a4 a5 a6 a7 a8 a9 a10 k
 obtain ⟨ih0,ih1⟩ := spec_l06Named.mono_l k
 unfold spec_l06Named.f
 repeat' first
 | (with_reducible first | exact ih0 .. | exact ih1 .. | exact LeO.refl _ | exact LeO.none _ | refine LeO.ite ?_ ?_ | refine LeO.bind ?_ (fun _ => ?_))
 | exact LeO.none _ | refine LeO.ite ?_ ?_ | refine LeO.bind ?_ (fun _ => ?_)
set_option maxHeartbeats 8000000 in
set_option maxRecDepth 100000 in
theorem spec_l06Named.calls (k : Nat) (a0_0 : Int) (a0_1 : Int) (A0_2 : Option Addr) (c0_2 : Nat) (l0_2 : List (S64)) (A0_3 : Option Addr) (c0_3 : Nat) (l0_3 : List (S71)) (a0_4 : Int) (a0_5 : Int) (a0_6 : Int) (a0_7 : Int) (a0_8 : Int) (a0_9 : Int) (a1 : ByteArray) (r : Bool) (w : World) (hr0_2 : Kd.C k64 w A0_2 l0_2.length l0_2) (hc0_2 : l0_2.length ≤ c0_2) (hr0_3 : Kd.C k71 w A0_3 l0_3.length l0_3) (hc0_3 : l0_3.length ≤ c0_3) (h : spec_l06Named.f k a0_0 a0_1 l0_2 l0_3 a0_4 a0_5 a0_6 a0_7 a0_8 a0_9 a1 = some r) :
  Calls Tryz.prog 38 #[.agg #[.int .i64 a0_0,.int .i64 a0_1,.slice A0_2 l0_2.length c0_2,.slice A0_3 l0_3.length c0_3,.int .i64 a0_4,.int .i64 a0_5,.int .i64 a0_6,.int .i64 a0_7,.int .i64 a0_8,.int .i64 a0_9],.string a1] w fun e w' => e = .returned (.bool r) ∧ Below w.heap.size w w' := by
 have hu35 := Tryz.underlying35
 have HR0_2 := Aside0.mk hr0_2
 have HC0_2 := Aside0.mk hc0_2
 clear hr0_2 hc0_2
 have HR0_3 := Aside0.mk hr0_3
 have HC0_3 := Aside0.mk hc0_3
 clear hr0_3 hc0_3
 have HB := Aside0.mk (Below.refl w.heap.size w)
 have H : (spec_l06Named.l0 k a1 0 a0_0 a0_1 l0_2 l0_3 a0_4 a0_5 a0_6 a0_7 a0_8 a0_9) = some r := h
 clear h
 have H' := Aside0.mk H
 clear H
 go_enter Tryz.func38,Tryz.ntmps38
 go_wp2_with (first | ((with_reducible refine gate_dst (N:=2) rfl ?_); refine box_event ?hg (N:=2) ?hd (cs := #[.int .i64 a0_0,.int .i64 a0_1,.slice A0_2 l0_2.length c0_2,.slice A0_3 l0_3.length c0_3,.int .i64 a0_4,.int .i64 a0_5,.int .i64 a0_6,.int .i64 a0_7,.int .i64 a0_8,.int .i64 a0_9]) (t:=35) ?hr ?_; (case hd => rfl); (case hg => rfl); (case hr => first | (go_simp; done) | (go_simp; rfl)); intro gb194 hg w3 hbox hb; have n0_ := Aside0.mk (below_step bA hb); have n1_ := Aside0.mk (hbox); have n2_ := Aside0.mk ((gw hg : w.heap.size ≤ gb194)); have n3_ := Aside0.mk ((gw hg : w.heap.size ≤ gb194)); clear HB; have HB := n0_; have BK194 := n1_; have GW194 := n2_; have GE194 := n3_; clear n0_ n1_ n2_ n3_; clear hb hbox hg))
 go_loopg [5] k (fun kq v5 w' => ∃ (x5_1 : Int),v5 = .int .i64 x5_1 ∧ Aside0 (spec_l06Named.l0 kq a1 x5_1 a0_0 a0_1 l0_2 l0_3 a0_4 a0_5 a0_6 a0_7 a0_8 a0_9 = some r) ∧ Aside0 (kq ≤ k) ∧ Aside0 (w'.heap[gb194]? = some (.cells #[.int .i64 a0_0,.int .i64 a0_1,(.slice A0_2 l0_2.length c0_2),(.slice A0_3 l0_3.length c0_3),.int .i64 a0_4,.int .i64 a0_5,.int .i64 a0_6,.int .i64 a0_7,.int .i64 a0_8,.int .i64 a0_9] 35 (0,0))) ∧ Aside0 (Below w.heap.size w w'))
 case atStart => exact ⟨(0),(by first | rfl | (simp; done) | (simp [*]; done)),H',⟨Nat.le_refl _⟩,⟨kA BK194.out⟩,⟨bA⟩⟩
 case round =>
  clear H'
  try clear p2
  try clear c3
  obtain ⟨x5_1,rfl,HA,HK1,BK194,HB⟩ := hrel
  cases gk with
  | zero => exact absurd HA.out (by simp [spec_l06Named.l0])
  | succ k1 =>
   have H := HA.out
   clear HA
   simp only [spec_l06Named.l0] at H
   by_cases c4 : x5_1 < (l0_2.length : Int)
   ·rw [if_pos c4] at H
    have c4b0 : decide (x5_1 < (l0_2.length : Int)) = true := decide_eq_true c4
    clear c4
    by_cases c5 : 0 ≤ x5_1
    ·rw [if_pos c5] at H
     have c5b0 : decide (0 ≤ x5_1) = true := decide_eq_true c5
     clear c5
     by_cases c6 : ((rd_T64 l0_2 x5_1).f3).toList = a1.toList
     ·rw [if_pos c6] at H
      have c6b0 : (((rd_T64 l0_2 x5_1).f3).toList == a1.toList) = true := beq_iff_eq.mpr c6
      have c6b1 : (((rd_T64 l0_2 x5_1).f3).toList != a1.toList) = false := bne_eq_false_iff_eq.mpr c6
      clear c6
      obtain rfl := Option.some.inj H
      obtain ⟨hcz7_0,hcz7_1,hcz7_2,hcz7_3,hcz7_4,hcz7_5,hcz7_6,hcz7_7,hcz7_8,hcz7_9⟩ := cl10 BK194.out
      obtain ⟨hfz7_0,hfz7_1,hfz7_2,hfz7_3,hfz7_4,hfz7_5,hfz7_6,hfz7_7,hfz7_8,hfz7_9⟩ := fz10 BK194.out
      have p195 : 0 ≤ (x5_1 : Int) := od
      have q195 : x5_1 < (l0_2.length : Int) := od
      obtain ⟨ad195,e195,hx195_0,hx195_1,hx195_2,hx195_3⟩ := at_T64 HR0_2.out x5_1 p195 q195
      cases e195
      replace hx195_0 := cb HB.out hx195_0
      replace hx195_1 := cb HB.out hx195_1
      replace hx195_2 := cb HB.out hx195_2
      replace hx195_3 := cb HB.out hx195_3
      replace p195 := eq_true p195
      replace q195 := eq_true q195
      go_wp2
      go_ret
      exact ⟨by first | rfl | (simp only [i64_w,i32_w] <;> rfl) | (simp [errW_none,errW_some] <;> rfl) | (simp [*,errW_none,errW_some] <;> rfl),bA⟩
     ·rw [if_neg c6] at H
      have c6b0 : (((rd_T64 l0_2 x5_1).f3).toList == a1.toList) = false := beq_eq_false_iff_ne.mpr c6
      have c6b1 : (((rd_T64 l0_2 x5_1).f3).toList != a1.toList) = true := bne_iff_ne.mpr c6
      have H' := Aside0.mk H
      clear H
      obtain ⟨hcz8_0,hcz8_1,hcz8_2,hcz8_3,hcz8_4,hcz8_5,hcz8_6,hcz8_7,hcz8_8,hcz8_9⟩ := cl10 BK194.out
      obtain ⟨hfz8_0,hfz8_1,hfz8_2,hfz8_3,hfz8_4,hfz8_5,hfz8_6,hfz8_7,hfz8_8,hfz8_9⟩ := fz10 BK194.out
      have p195 : 0 ≤ (x5_1 : Int) := od
      have q195 : x5_1 < (l0_2.length : Int) := od
      obtain ⟨ad195,e195,hx195_0,hx195_1,hx195_2,hx195_3⟩ := at_T64 HR0_2.out x5_1 p195 q195
      cases e195
      replace hx195_0 := cb HB.out hx195_0
      replace hx195_1 := cb HB.out hx195_1
      replace hx195_2 := cb HB.out hx195_2
      replace hx195_3 := cb HB.out hx195_3
      replace p195 := eq_true p195
      replace q195 := eq_true q195
      go_wp2
      go_roundg k1
      case measure => have := HK1.out; omega
      case rel => exact ⟨(wrap64 (x5_1 + 1)),(by first | rfl | (simp; done) | (simp [*]; done)),H',⟨by have := HK1.out; omega⟩,⟨kA BK194.out⟩,⟨bA⟩⟩
    ·rw [if_neg c5] at H
     exact absurd H (by simp)
   ·rw [if_neg c4] at H
    have c4b0 : decide (x5_1 < (l0_2.length : Int)) = false := decide_eq_false c4
    clear c4
    have H' := Aside0.mk H
    clear H
    obtain ⟨hcz9_0,hcz9_1,hcz9_2,hcz9_3,hcz9_4,hcz9_5,hcz9_6,hcz9_7,hcz9_8,hcz9_9⟩ := cl10 BK194.out
    obtain ⟨hfz9_0,hfz9_1,hfz9_2,hfz9_3,hfz9_4,hfz9_5,hfz9_6,hfz9_7,hfz9_8,hfz9_9⟩ := fz10 BK194.out
    go_wp2
    go_loopg [6] k1 (fun kq v6 w' => ∃ (x6_2 : Int),v6 = .int .i64 x6_2 ∧ Aside0 (spec_l06Named.l1 kq a1 x6_2 a0_0 a0_1 l0_2 l0_3 a0_4 a0_5 a0_6 a0_7 a0_8 a0_9 = some r) ∧ Aside0 (kq ≤ k1) ∧ Aside0 (w'.heap[gb194]? = some (.cells #[.int .i64 a0_0,.int .i64 a0_1,(.slice A0_2 l0_2.length c0_2),(.slice A0_3 l0_3.length c0_3),.int .i64 a0_4,.int .i64 a0_5,.int .i64 a0_6,.int .i64 a0_7,.int .i64 a0_8,.int .i64 a0_9] 35 (0,0))) ∧ Aside0 (Below w.heap.size w w'))
    case atStart => exact ⟨(0),(by first | rfl | (simp; done) | (simp [*]; done)),H',⟨Nat.le_refl _⟩,⟨kA BK194.out⟩,⟨bA⟩⟩
    case round =>
     clear H'
     try clear p1
     try clear q1
     try clear hx1
     try clear p2
     try clear c3
     try clear c4
     try clear c4b0
     try clear c5
     try clear c5b0
     try clear c6
     try clear c6b0
     try clear c6b1
     try clear p6
     try clear hcz7_0 hcz7_1 hcz7_2 hcz7_3 hcz7_4 hcz7_5 hcz7_6 hcz7_7 hcz7_8 hcz7_9
     try clear hcz8_0 hcz8_1 hcz8_2 hcz8_3 hcz8_4 hcz8_5 hcz8_6 hcz8_7 hcz8_8 hcz8_9
     try clear hcz9_0 hcz9_1 hcz9_2 hcz9_3 hcz9_4 hcz9_5 hcz9_6 hcz9_7 hcz9_8 hcz9_9
     try clear hfz7_0 hfz7_1 hfz7_2 hfz7_3 hfz7_4 hfz7_5 hfz7_6 hfz7_7 hfz7_8 hfz7_9
     try clear hfz8_0 hfz8_1 hfz8_2 hfz8_3 hfz8_4 hfz8_5 hfz8_6 hfz8_7 hfz8_8 hfz8_9
     try clear hfz9_0 hfz9_1 hfz9_2 hfz9_3 hfz9_4 hfz9_5 hfz9_6 hfz9_7 hfz9_8 hfz9_9
     try clear hx195_0
     try clear hx195_1
     try clear hx195_2
     try clear hx195_3
     try clear p195
     try clear p2
     try clear q195
     obtain ⟨x6_2,rfl,HA,HK2,BK194,HB⟩ := hrel
     cases gk with
     | zero => exact absurd HA.out (by simp [spec_l06Named.l1])
     | succ k2 =>
      have H := HA.out
      clear HA
      simp only [spec_l06Named.l1] at H
      by_cases c10 : x6_2 < (l0_3.length : Int)
      ·rw [if_pos c10] at H
       have c10b0 : decide (x6_2 < (l0_3.length : Int)) = true := decide_eq_true c10
       clear c10
       by_cases c11 : 0 ≤ x6_2
       ·rw [if_pos c11] at H
        have c11b0 : decide (0 ≤ x6_2) = true := decide_eq_true c11
        clear c11
        by_cases c12 : ((rd_T71 l0_3 x6_2).f1).toList = a1.toList
        ·rw [if_pos c12] at H
         have c12b0 : (((rd_T71 l0_3 x6_2).f1).toList == a1.toList) = true := beq_iff_eq.mpr c12
         have c12b1 : (((rd_T71 l0_3 x6_2).f1).toList != a1.toList) = false := bne_eq_false_iff_eq.mpr c12
         clear c12
         obtain rfl := Option.some.inj H
         obtain ⟨hcz13_0,hcz13_1,hcz13_2,hcz13_3,hcz13_4,hcz13_5,hcz13_6,hcz13_7,hcz13_8,hcz13_9⟩ := cl10 BK194.out
         obtain ⟨hfz13_0,hfz13_1,hfz13_2,hfz13_3,hfz13_4,hfz13_5,hfz13_6,hfz13_7,hfz13_8,hfz13_9⟩ := fz10 BK194.out
         have p196 : 0 ≤ (x6_2 : Int) := od
         have q196 : x6_2 < (l0_3.length : Int) := od
         obtain ⟨ad196,e196,hx196_0,hx196_1⟩ := at_T71 HR0_3.out x6_2 p196 q196
         cases e196
         replace hx196_0 := cb HB.out hx196_0
         replace hx196_1 := cb HB.out hx196_1
         replace p196 := eq_true p196
         replace q196 := eq_true q196
         go_wp2
         go_ret
         exact ⟨by first | rfl | (simp only [i64_w,i32_w] <;> rfl) | (simp [errW_none,errW_some] <;> rfl) | (simp [*,errW_none,errW_some] <;> rfl),bA⟩
        ·rw [if_neg c12] at H
         have c12b0 : (((rd_T71 l0_3 x6_2).f1).toList == a1.toList) = false := beq_eq_false_iff_ne.mpr c12
         have c12b1 : (((rd_T71 l0_3 x6_2).f1).toList != a1.toList) = true := bne_iff_ne.mpr c12
         have H' := Aside0.mk H
         clear H
         obtain ⟨hcz14_0,hcz14_1,hcz14_2,hcz14_3,hcz14_4,hcz14_5,hcz14_6,hcz14_7,hcz14_8,hcz14_9⟩ := cl10 BK194.out
         obtain ⟨hfz14_0,hfz14_1,hfz14_2,hfz14_3,hfz14_4,hfz14_5,hfz14_6,hfz14_7,hfz14_8,hfz14_9⟩ := fz10 BK194.out
         have p196 : 0 ≤ (x6_2 : Int) := od
         have q196 : x6_2 < (l0_3.length : Int) := od
         obtain ⟨ad196,e196,hx196_0,hx196_1⟩ := at_T71 HR0_3.out x6_2 p196 q196
         cases e196
         replace hx196_0 := cb HB.out hx196_0
         replace hx196_1 := cb HB.out hx196_1
         replace p196 := eq_true p196
         replace q196 := eq_true q196
         go_wp2
         go_roundg k2
         case measure => have := HK1.out; have := HK2.out; omega
         case rel => exact ⟨(wrap64 (x6_2 + 1)),(by first | rfl | (simp; done) | (simp [*]; done)),H',⟨by have := HK1.out; have := HK2.out; omega⟩,⟨kA BK194.out⟩,⟨bA⟩⟩
       ·rw [if_neg c11] at H
        exact absurd H (by simp)
      ·rw [if_neg c10] at H
       have c10b0 : decide (x6_2 < (l0_3.length : Int)) = false := decide_eq_false c10
       clear c10
       obtain rfl := Option.some.inj H
       obtain ⟨hcz15_0,hcz15_1,hcz15_2,hcz15_3,hcz15_4,hcz15_5,hcz15_6,hcz15_7,hcz15_8,hcz15_9⟩ := cl10 BK194.out
       obtain ⟨hfz15_0,hfz15_1,hfz15_2,hfz15_3,hfz15_4,hfz15_5,hfz15_6,hfz15_7,hfz15_8,hfz15_9⟩ := fz10 BK194.out
       go_wp2
       go_ret
       exact ⟨by first | rfl | (simp only [i64_w,i32_w] <;> rfl) | (simp [errW_none,errW_some] <;> rfl) | (simp [*,errW_none,errW_some] <;> rfl),bA⟩

end Go.Proofs.YtfondhlknkhmmaaGreatDoor.XFnExactOrphansOf
