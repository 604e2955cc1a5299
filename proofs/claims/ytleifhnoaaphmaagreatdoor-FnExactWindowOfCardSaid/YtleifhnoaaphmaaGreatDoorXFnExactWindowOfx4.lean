-- Printed by this session's own program wip/tools/xprint.py, which widens the kit's print. Not trusted: Lean checks it.
import Derived.Test.YtleifhnoaaphmaaGreatDoorXFnExactWindowOfx0
import Derived.Test.YtleifhnoaaphmaaGreatDoorXFnExactWindowOfx2
import Derived.Test.YtleifhnoaaphmaaGreatDoorXFnExactWindowOfx3
namespace Go.Proofs.YtleifhnoaaphmaaGreatDoor.XFnExactWindowOf
open List (setIfInBounds_toArray set_cons_zero set_cons_succ)
open Go.RowKit Go.Proofs.YtleifhnoaaphmaaGreatDoorW.PrintWords Go.Proofs.YtleifhnoaaphmaaGreatDoorW.PrintLast Go.Proofs.YtleifhnoaaphmaaGreatDoorW.PrintMore
attribute [local go_sem] max2_int min2_int max_two min_two max_three min_three max_four min_four   -- for this text's walks alone
set_option linter.unusedVariables false
set_option linter.unusedSimpArgs false

/-! ### spec_l03ToKey: function 17 -/
mutual
def spec_l03ToKey.j0 : Nat → ByteArray → List ByteArray → Bool → Option (Int × Int × Int × Bool)
 | 0,_,_,_ => none
 | k + 1,x0,x6,x30 => if x30 = true then (some (0,0,0,false)) else (if 0 < (x6.length : Int) then ((spec_l01Bit.f ((rdOf ByteArray.empty x6 0).toList == ([116,49] : List UInt8))).bind fun t138 => ((spec_l01Bit.f ((rdOf ByteArray.empty x6 0).toList == ([116,50] : List UInt8))).bind fun t140 => (if 1 < (x6.length : Int) then (if 0 ≤ 6 then (if 6 ≤ ((rdOf ByteArray.empty x6 1).size : Int) then ((spec_l03Fixed.f k ((rdOf ByteArray.empty x6 1).extract 0 6)).bind fun bt142 => (if 7 ≤ ((rdOf ByteArray.empty x6 1).size : Int) then ((spec_l03Fixed.f k ((rdOf ByteArray.empty x6 1).extract 7 (rdOf ByteArray.empty x6 1).size)).bind fun bt145 => (if bt142.2 = true then (if bt145.2 = true then ((spec_l03KeyOK.f (wrap64 (t138 + (wrap64 (2 * t140)))) bt142.1 bt145.1).bind fun t147 => (if t147 = true then ((spec_l03Key.f k (wrap64 (t138 + (wrap64 (2 * t140)))) bt142.1 bt145.1).bind fun t148 => (spec_l03ToKey.j1 k (wrap64 (t138 + (wrap64 (2 * t140)))) bt142.1 bt145.1 (t148.toList != x0.toList))) else (spec_l03ToKey.j1 k (wrap64 (t138 + (wrap64 (2 * t140)))) bt142.1 bt145.1 true))) else (spec_l03ToKey.j1 k (wrap64 (t138 + (wrap64 (2 * t140)))) bt142.1 bt145.1 true)) else (spec_l03ToKey.j1 k (wrap64 (t138 + (wrap64 (2 * t140)))) bt142.1 bt145.1 true))) else (none))) else (none)) else (none)) else (none)))) else (none))
def spec_l03ToKey.j1 : Nat → Int → Int → Int → Bool → Option (Int × Int × Int × Bool)
 | 0,_,_,_,_ => none
 | k + 1,x7,x8,x10,x79 => if x79 = true then (some (0,0,0,false)) else (some (x7,x8,x10,true))
end
def spec_l03ToKey.f (k : Nat) (a0 : ByteArray) : Option (Int × Int × Int × Bool) := (spec_l00Cut.f k a0 47).bind fun t132 => (if (t132.length : Int) = 2 then (if 1 < (t132.length : Int) then (if ((rdOf ByteArray.empty t132 1).size : Int) = 13 then (if 6 < ((rdOf ByteArray.empty t132 1).size : Int) then (spec_l03ToKey.j0 k a0 t132 ((bt (rdOf ByteArray.empty t132 1) 6) != 45)) else (none)) else (spec_l03ToKey.j0 k a0 t132 true)) else (none)) else (spec_l03ToKey.j0 k a0 t132 true))
theorem spec_l03ToKey.mono_l : ∀ k,(∀ y0 y1 y2,LeO (spec_l03ToKey.j0 k y0 y1 y2) (spec_l03ToKey.j0 (k + 1) y0 y1 y2)) ∧ (∀ y0 y1 y2 y3,LeO (spec_l03ToKey.j1 k y0 y1 y2 y3) (spec_l03ToKey.j1 (k + 1) y0 y1 y2 y3))
 | 0 => ⟨fun _ _ _ r h => by simp [spec_l03ToKey.j0] at h,fun _ _ _ _ r h => by simp [spec_l03ToKey.j1] at h⟩
 | k + 1 => by
  obtain ⟨ih0,ih1⟩ := spec_l03ToKey.mono_l k
  refine ⟨?_,?_⟩
  ·intro y0 y1 y2
   unfold spec_l03ToKey.j0
   repeat' first
   | (with_reducible exact ih0 _ _ _)
   | (with_reducible exact ih1 _ _ _ _)
   | (with_reducible exact spec_l00Cut.mono _ _ _)
   | (with_reducible exact spec_l03Fixed.mono _ _)
   | (with_reducible exact spec_l03Key.mono _ _ _ _)
   | (with_reducible exact LeO.refl _)
   | (with_reducible exact LeO.none _)
   | (with_reducible refine LeO.ite ?_ ?_)
   | (with_reducible refine LeO.bind ?_ (fun _ => ?_))
   | exact ih0 _ _ _
   | exact ih1 _ _ _ _
   | exact spec_l00Cut.mono _ _ _
   | exact spec_l03Fixed.mono _ _
   | exact spec_l03Key.mono _ _ _ _
   | exact LeO.none _
   | refine LeO.ite ?_ ?_
   | refine LeO.bind ?_ (fun _ => ?_)
  ·intro y0 y1 y2 y3
   unfold spec_l03ToKey.j1
   repeat' first
   | (with_reducible exact ih0 _ _ _)
   | (with_reducible exact ih1 _ _ _ _)
   | (with_reducible exact spec_l00Cut.mono _ _ _)
   | (with_reducible exact spec_l03Fixed.mono _ _)
   | (with_reducible exact spec_l03Key.mono _ _ _ _)
   | (with_reducible exact LeO.refl _)
   | (with_reducible exact LeO.none _)
   | (with_reducible refine LeO.ite ?_ ?_)
   | (with_reducible refine LeO.bind ?_ (fun _ => ?_))
   | exact ih0 _ _ _
   | exact ih1 _ _ _ _
   | exact spec_l00Cut.mono _ _ _
   | exact spec_l03Fixed.mono _ _
   | exact spec_l03Key.mono _ _ _ _
   | exact LeO.none _
   | refine LeO.ite ?_ ?_
   | refine LeO.bind ?_ (fun _ => ?_)
theorem spec_l03ToKey.mono : ∀ a0 k,LeO (spec_l03ToKey.f k a0) (spec_l03ToKey.f (k + 1) a0) := by
 intro a0 k
 obtain ⟨ih0,ih1⟩ := spec_l03ToKey.mono_l k
 unfold spec_l03ToKey.f
 repeat' first
   | (with_reducible exact ih0 _ _ _)
   | (with_reducible exact ih1 _ _ _ _)
   | (with_reducible exact spec_l00Cut.mono _ _ _)
   | (with_reducible exact spec_l03Fixed.mono _ _)
   | (with_reducible exact spec_l03Key.mono _ _ _ _)
   | (with_reducible exact LeO.refl _)
   | (with_reducible exact LeO.none _)
   | (with_reducible refine LeO.ite ?_ ?_)
   | (with_reducible refine LeO.bind ?_ (fun _ => ?_))
   | exact ih0 _ _ _
   | exact ih1 _ _ _ _
   | exact spec_l00Cut.mono _ _ _
   | exact spec_l03Fixed.mono _ _
   | exact spec_l03Key.mono _ _ _ _
   | exact LeO.none _
   | refine LeO.ite ?_ ?_
   | refine LeO.bind ?_ (fun _ => ?_)
set_option maxHeartbeats 8000000 in
set_option maxRecDepth 100000 in
theorem spec_l03ToKey.calls (k : Nat) (a0 : ByteArray) (r1 : Int) (r2 : Int) (r3 : Int) (r4 : Bool) (w : World) (h : spec_l03ToKey.f k a0 = some (r1,r2,r3,r4)) :
  Calls Tryz.prog 17 #[.string a0] w fun e w' => e = .returned (.tuple #[.int .i64 r1,.int .i64 r2,.int .i64 r3,.bool r4]) ∧ Below w.heap.size w w' := by
 have HB := Aside0.mk (Below.refl w.heap.size w)
 have H : ((spec_l00Cut.f k a0 47).bind fun t132 => (if (t132.length : Int) = 2 then (if 1 < (t132.length : Int) then (if ((rdOf ByteArray.empty t132 1).size : Int) = 13 then (if 6 < ((rdOf ByteArray.empty t132 1).size : Int) then (spec_l03ToKey.j0 k a0 t132 ((bt (rdOf ByteArray.empty t132 1) 6) != 45)) else (none)) else (spec_l03ToKey.j0 k a0 t132 true)) else (none)) else (spec_l03ToKey.j0 k a0 t132 true))) = some (r1,r2,r3,r4) := h
 clear h
 replace H := Option.bind_eq_some_iff.mp H
 obtain ⟨t132,A20,H⟩ := H
 try dsimp only at H
 have A2 := Aside0.mk A20
 clear A20
 have HC3 := Aside0.mk H
 clear H
 go_enter Tryz.func17,Tryz.ntmps17
 go_upto_region 2 with (first | (go_at_call 32; (with_reducible refine (spec_l00Cut.calls k a0 47 t132 _ A2.out).mono ?_); rintro e w4 ⟨v133,rfl,ho0,hb⟩; have n0_ := Aside0.mk (Kd.R_lower ho0 (below_size bA)); have n1_ := Aside0.mk (below_step bA hb); clear HB; have HO134 := n0_; have HB := n1_; clear n0_ n1_; (try clear hb); (try clear hb2); (try clear hk); (try clear hi); (try clear ho0)))
 repeat (go_quiet (first | (go_at_call 32; (with_reducible refine (spec_l00Cut.calls k a0 47 t132 _ A2.out).mono ?_); rintro e w4 ⟨v133,rfl,ho0,hb⟩; have n0_ := Aside0.mk (Kd.R_lower ho0 (below_size bA)); have n1_ := Aside0.mk (below_step bA hb); clear HB; have HO134 := n0_; have HB := n1_; clear n0_ n1_; (try clear hb); (try clear hb2); (try clear hk); (try clear hi); (try clear ho0))); go_upto_region 2 with (first | (go_at_call 32; (with_reducible refine (spec_l00Cut.calls k a0 47 t132 _ A2.out).mono ?_); rintro e w4 ⟨v133,rfl,ho0,hb⟩; have n0_ := Aside0.mk (Kd.R_lower ho0 (below_size bA)); have n1_ := Aside0.mk (below_step bA hb); clear HB; have HO134 := n0_; have HB := n1_; clear n0_ n1_; (try clear hb); (try clear hb2); (try clear hk); (try clear hi); (try clear ho0))))
 (try simp only [Act.put,setIfInBounds_toArray,set_cons_zero,set_cons_succ])
 go_cut [30] (fun v30 wc => ∃ (kq : Nat) (x30_2 : Bool),v30 = .bool x30_2 ∧ Aside0 (spec_l03ToKey.j0 kq a0 t132 x30_2 = some (r1,r2,r3,r4)) ∧ Aside0 (kq ≤ k) ∧ Aside0 (Kd.R Kd.string 9 wc w.heap.size (fun _ => True) v133 t132) ∧ Aside0 (Below w.heap.size w wc))
 case first =>
  have H := HC3.out
  clear HC3
  by_cases c5 : (t132.length : Int) = 2
  ·rw [if_pos c5] at H
   have c5b0 : ((t132.length : Int) == 2) = true := beq_iff_eq.mpr c5
   have c5b1 : ((t132.length : Int) != 2) = false := bne_eq_false_iff_eq.mpr c5
   clear c5
   (first | rw [c5b0] | (simp only [i64_w,i32_w]; rw [c5b0]) | skip)
   by_cases c6 : 1 < (t132.length : Int)
   ·rw [if_pos c6] at H
    have c6b0 : decide (1 < (t132.length : Int)) = true := decide_eq_true c6
    have c6b1 : decide (1 < t132.length) = true := decide_eq_true (by omega)
    clear c6
    by_cases c7 : ((rdOf ByteArray.empty t132 1).size : Int) = 13
    ·rw [if_pos c7] at H
     have c7b0 : (((rdOf ByteArray.empty t132 1).size : Int) == 13) = true := beq_iff_eq.mpr c7
     have c7b1 : (((rdOf ByteArray.empty t132 1).size : Int) != 13) = false := bne_eq_false_iff_eq.mpr c7
     clear c7
     by_cases c8 : 6 < ((rdOf ByteArray.empty t132 1).size : Int)
     ·rw [if_pos c8] at H
      have c8b0 : decide (6 < ((rdOf ByteArray.empty t132 1).size : Int)) = true := decide_eq_true c8
      have c8b1 : decide (6 < (rdOf ByteArray.empty t132 1).size) = true := decide_eq_true (by omega)
      clear c8
      have H' := Aside0.mk H
      clear H
      obtain ⟨Ao10,co10,eo10⟩ := Kd.R_slice HO134.out
      subst eo10
      have p135 : 0 ≤ (1 : Int) := (by omega)
      have q135 : 1 < (t132.length : Int) := od
      obtain ⟨ad135,e135,hx135_0⟩ := Kd.at_string (Kd.R_reads' HO134.out).2.2 1 p135 q135
      cases e135
      (try simp only [show (1 : Int).toNat = 1 from rfl,Nat.reduceMul,Nat.reduceEqDiff,Go.Addr.add,↓reduceIte] at hx135_0)
      have qi135 : (1 < t132.length) = True := eq_true (by omega)
      (try rw [show ((1 : Int)).toNat = 1 from rfl] at hx135_0)
      replace p135 := eq_true p135
      replace q135 := eq_true q135
      have p136 : 0 ≤ (1 : Int) := (by omega)
      have q136 : 1 < (t132.length : Int) := od
      obtain ⟨ad136,e136,hx136_0⟩ := Kd.at_string (Kd.R_reads' HO134.out).2.2 1 p136 q136
      obtain rfl : ad135 = ad136 := (by injection e136)
      (try simp only [show (1 : Int).toNat = 1 from rfl,Nat.reduceMul,Nat.reduceEqDiff,Go.Addr.add,↓reduceIte] at hx136_0)
      have qi136 : (1 < t132.length) = True := eq_true (by omega)
      (try rw [show ((1 : Int)).toNat = 1 from rfl] at hx136_0)
      replace p136 := eq_true p136
      replace q136 := eq_true q136
      have p9 : 0 ≤ (6 : Int) := (by omega)
      have q9 : 6 < (rdOf ByteArray.empty t132 1).size := (by have : (6 : Int) < ((rdOf ByteArray.empty t132 1).size : Int) := od; omega)
      have hx9 : ∀ h : 6 < (rdOf ByteArray.empty t132 1).size,(((rdOf ByteArray.empty t132 1)[6]'h).toNat : Int) = bt (rdOf ByteArray.empty t132 1) 6 := bt_at (rdOf ByteArray.empty t132 1) 6
      clear p9
      have qi9 : (6 < ((rdOf ByteArray.empty t132 1).size : Int)) = True := eq_true (od)
      replace q9 := eq_true q9
      go_wp2
      repeat (go_quiet (fail); try go_wp2)
      go_meet
      case rel => exact ⟨_,(((bt (rdOf ByteArray.empty t132 1) 6) != 45)),(by first | rfl | (simp; done) | (simp [*]; done)),H',⟨by first | omega | exact Nat.le_refl _⟩,⟨rA HO134.out⟩,⟨bA⟩⟩
     ·rw [if_neg c8] at H
      exact absurd H (by simp)
    ·rw [if_neg c7] at H
     have c7b0 : (((rdOf ByteArray.empty t132 1).size : Int) == 13) = false := beq_eq_false_iff_ne.mpr c7
     have c7b1 : (((rdOf ByteArray.empty t132 1).size : Int) != 13) = true := bne_iff_ne.mpr c7
     have H' := Aside0.mk H
     clear H
     obtain ⟨Ao11,co11,eo11⟩ := Kd.R_slice HO134.out
     subst eo11
     have p135 : 0 ≤ (1 : Int) := (by omega)
     have q135 : 1 < (t132.length : Int) := od
     obtain ⟨ad135,e135,hx135_0⟩ := Kd.at_string (Kd.R_reads' HO134.out).2.2 1 p135 q135
     cases e135
     (try simp only [show (1 : Int).toNat = 1 from rfl,Nat.reduceMul,Nat.reduceEqDiff,Go.Addr.add,↓reduceIte] at hx135_0)
     have qi135 : (1 < t132.length) = True := eq_true (by omega)
     (try rw [show ((1 : Int)).toNat = 1 from rfl] at hx135_0)
     replace p135 := eq_true p135
     replace q135 := eq_true q135
     go_wp2
     repeat (go_quiet (fail); try go_wp2)
     go_meet
     case rel => exact ⟨_,(true),(by first | rfl | (simp; done) | (simp [*]; done)),H',⟨by first | omega | exact Nat.le_refl _⟩,⟨rA HO134.out⟩,⟨bA⟩⟩
   ·rw [if_neg c6] at H
    exact absurd H (by simp)
  ·rw [if_neg c5] at H
   have c5b0 : ((t132.length : Int) == 2) = false := beq_eq_false_iff_ne.mpr c5
   have c5b1 : ((t132.length : Int) != 2) = true := bne_iff_ne.mpr c5
   (first | rw [c5b0] | (simp only [i64_w,i32_w]; rw [c5b0]) | skip)
   have H' := Aside0.mk H
   clear H
   obtain ⟨Ao12,co12,eo12⟩ := Kd.R_slice HO134.out
   subst eo12
   go_wp2
   repeat (go_quiet (fail); try go_wp2)
   go_meet
   case rel => exact ⟨_,(true),(by first | rfl | (simp; done) | (simp [*]; done)),H',⟨by first | omega | exact Nat.le_refl _⟩,⟨rA HO134.out⟩,⟨bA⟩⟩
 case rest =>
  clear HC3
  try clear c1
  try clear p1
  try clear q1
  try clear hx1
  try clear qi1
  try clear p2
  try clear c5
  try clear c5b0
  try clear c5b1
  try clear c6
  try clear c6b0
  try clear c6b1
  try clear c7
  try clear c7b0
  try clear c7b1
  try clear c8
  try clear c8b0
  try clear c8b1
  try clear p9
  try clear q9
  try clear hx9
  try clear qi9
  try clear hx135_0
  try clear hx136_0
  try clear p135
  try clear p136
  try clear p9
  try clear q135
  try clear q136
  try clear q9
  obtain ⟨kq,x30_2,rfl,HA,HJ2,HO_6,HB⟩ := hcut
  cases kq with
  | zero => exact absurd HA.out (by simp [spec_l03ToKey.j0])
  | succ kj2 =>
   have H := HA.out
   clear HA
   simp only [spec_l03ToKey.j0] at H
   by_cases c13 : x30_2 = true
   ·subst c13
    rw [if_pos rfl] at H
    simp only [Option.some.injEq,Prod.mk.injEq] at H
    obtain ⟨rfl,rfl,rfl,rfl⟩ := H
    go_wp2
    repeat (go_quiet (fail); try go_wp2)
    refine bodyPost_ret (results_list (rs := [.tmp 2,.tmp 3,.tmp 4,.tmp 5]) rfl (by simp) (.tmp (.tmp (.tmp (.tmp .nil))))) rfl ?_
    exact ⟨by first | rfl | (simp only [i64_w,i32_w] <;> rfl) | (simp [errW_none,errW_some] <;> rfl) | (simp [*,errW_none,errW_some] <;> rfl),bA⟩
   ·replace c13 := Bool.eq_false_iff.mpr c13
    subst c13
    rw [if_neg (show ¬ (false = true) by decide)] at H
    by_cases c14 : 0 < (t132.length : Int)
    ·rw [if_pos c14] at H
     have c14b0 : decide (0 < (t132.length : Int)) = true := decide_eq_true c14
     have c14b1 : decide (0 < t132.length) = true := decide_eq_true (by omega)
     clear c14
     replace H := Option.bind_eq_some_iff.mp H
     obtain ⟨t138,A150,H⟩ := H
     try dsimp only at H
     have A15 := Aside0.mk A150
     clear A150
     replace H := Option.bind_eq_some_iff.mp H
     obtain ⟨t140,A160,H⟩ := H
     try dsimp only at H
     have A16 := Aside0.mk A160
     clear A160
     by_cases c17 : 1 < (t132.length : Int)
     ·rw [if_pos c17] at H
      have c17b0 : decide (1 < (t132.length : Int)) = true := decide_eq_true c17
      have c17b1 : decide (1 < t132.length) = true := decide_eq_true (by omega)
      clear c17
      by_cases c18 : 0 ≤ 6
      ·rw [if_pos c18] at H
       have c18b0 := eq_true c18
       have c18b1 : decide (0 ≤ 6) = true := decide_eq_true c18
       clear c18
       by_cases c19 : 6 ≤ ((rdOf ByteArray.empty t132 1).size : Int)
       ·rw [if_pos c19] at H
        have c19b0 := eq_true c19
        have c19b1 : decide (6 ≤ ((rdOf ByteArray.empty t132 1).size : Int)) = true := decide_eq_true c19
        clear c19
        replace H := Option.bind_eq_some_iff.mp H
        obtain ⟨⟨t142,t143⟩,A200,H⟩ := H
        try dsimp only at H
        have A20 := Aside0.mk A200
        clear A200
        by_cases c21 : 7 ≤ ((rdOf ByteArray.empty t132 1).size : Int)
        ·rw [if_pos c21] at H
         have c21b0 := eq_true c21
         have c21b1 : decide (7 ≤ ((rdOf ByteArray.empty t132 1).size : Int)) = true := decide_eq_true c21
         clear c21
         replace H := Option.bind_eq_some_iff.mp H
         obtain ⟨⟨t145,t146⟩,A220,H⟩ := H
         try dsimp only at H
         have A22 := Aside0.mk A220
         clear A220
         have HC23 := Aside0.mk H
         clear H
         obtain ⟨Ao24,co24,eo24⟩ := Kd.R_slice HO_6.out
         subst eo24
         have p137 : 0 ≤ (0 : Int) := (by omega)
         have q137 : 0 < (t132.length : Int) := od
         obtain ⟨ad137,e137,hx137_0⟩ := Kd.at_string (Kd.R_reads' HO_6.out).2.2 0 p137 q137
         cases e137
         have qi137 : (0 < t132.length) = True := eq_true (by omega)
         (try rw [show ((0 : Int)).toNat = 0 from rfl] at hx137_0)
         (try rw [Addr.add_zero'] at hx137_0)
         replace p137 := eq_true p137
         replace q137 := eq_true q137
         go_upto_region 7 with (first | (go_at_call 33; (with_reducible refine (spec_l01Bit.calls ((rdOf ByteArray.empty t132 0).toList == ([116,49] : List UInt8)) t138 _ A15.out).mono ?_); rintro e w' ⟨rfl,⟨nd,rfl⟩⟩; (try first | exact ⟨rfl,_,World.drewN_drewN _ _ _⟩ | exact ⟨rfl,_,Eq.trans (World.drewN_drewN _ _ _) (congrArg (World.drewN _) (Nat.add_assoc _ _ _))⟩); have p139 : 0 ≤ (0 : Int) := (by omega); have q139 : 0 < (t132.length : Int) := od; obtain ⟨ad139,e139,hx139_0⟩ := Kd.at_string (Kd.R_reads' HO_6.out).2.2 0 p139 q139; obtain rfl : ad137 = ad139 := (by injection e139); have qi139 : (0 < t132.length) = True := eq_true (by omega); (try rw [show ((0 : Int)).toNat = 0 from rfl] at hx139_0); (try rw [Addr.add_zero'] at hx139_0); replace p139 := eq_true p139; replace q139 := eq_true q139) | (go_at_call 33; (with_reducible refine (spec_l01Bit.calls ((rdOf ByteArray.empty t132 0).toList == ([116,50] : List UInt8)) t140 _ A16.out).mono ?_); rintro e w' ⟨rfl,⟨nd,rfl⟩⟩; (try first | exact ⟨rfl,_,World.drewN_drewN _ _ _⟩ | exact ⟨rfl,_,Eq.trans (World.drewN_drewN _ _ _) (congrArg (World.drewN _) (Nat.add_assoc _ _ _))⟩); have p141 : 0 ≤ (1 : Int) := (by omega); have q141 : 1 < (t132.length : Int) := od; obtain ⟨ad141,e141,hx141_0⟩ := Kd.at_string (Kd.R_reads' HO_6.out).2.2 1 p141 q141; obtain rfl : ad137 = ad141 := (by injection e141); (try simp only [show (1 : Int).toNat = 1 from rfl,Nat.reduceMul,Nat.reduceEqDiff,Go.Addr.add,↓reduceIte] at hx141_0); have qi141 : (1 < t132.length) = True := eq_true (by omega); (try rw [show ((1 : Int)).toNat = 1 from rfl] at hx141_0); replace p141 := eq_true p141; replace q141 := eq_true q141) | (go_at_call 34; (with_reducible refine (spec_l03Fixed.calls kj2 ((rdOf ByteArray.empty t132 1).extract 0 6) t142 t143 _ A20.out).mono ?_); rintro e w' ⟨rfl,⟨nd,rfl⟩⟩; (try first | exact ⟨rfl,_,World.drewN_drewN _ _ _⟩ | exact ⟨rfl,_,Eq.trans (World.drewN_drewN _ _ _) (congrArg (World.drewN _) (Nat.add_assoc _ _ _))⟩); have p144 : 0 ≤ (1 : Int) := (by omega); have q144 : 1 < (t132.length : Int) := od; obtain ⟨ad144,e144,hx144_0⟩ := Kd.at_string (Kd.R_reads' HO_6.out).2.2 1 p144 q144; obtain rfl : ad137 = ad144 := (by injection e144); (try simp only [show (1 : Int).toNat = 1 from rfl,Nat.reduceMul,Nat.reduceEqDiff,Go.Addr.add,↓reduceIte] at hx144_0); have qi144 : (1 < t132.length) = True := eq_true (by omega); (try rw [show ((1 : Int)).toNat = 1 from rfl] at hx144_0); replace p144 := eq_true p144; replace q144 := eq_true q144) | (go_at_call 34; (with_reducible refine (spec_l03Fixed.calls kj2 ((rdOf ByteArray.empty t132 1).extract 7 (rdOf ByteArray.empty t132 1).size) t145 t146 _ A22.out).mono ?_); rintro e w' ⟨rfl,⟨nd,rfl⟩⟩; (try first | exact ⟨rfl,_,World.drewN_drewN _ _ _⟩ | exact ⟨rfl,_,Eq.trans (World.drewN_drewN _ _ _) (congrArg (World.drewN _) (Nat.add_assoc _ _ _))⟩)))
         repeat (go_quiet (first | (go_at_call 33; (with_reducible refine (spec_l01Bit.calls ((rdOf ByteArray.empty t132 0).toList == ([116,49] : List UInt8)) t138 _ A15.out).mono ?_); rintro e w' ⟨rfl,⟨nd,rfl⟩⟩; (try first | exact ⟨rfl,_,World.drewN_drewN _ _ _⟩ | exact ⟨rfl,_,Eq.trans (World.drewN_drewN _ _ _) (congrArg (World.drewN _) (Nat.add_assoc _ _ _))⟩); have p139 : 0 ≤ (0 : Int) := (by omega); have q139 : 0 < (t132.length : Int) := od; obtain ⟨ad139,e139,hx139_0⟩ := Kd.at_string (Kd.R_reads' HO_6.out).2.2 0 p139 q139; obtain rfl : ad137 = ad139 := (by injection e139); have qi139 : (0 < t132.length) = True := eq_true (by omega); (try rw [show ((0 : Int)).toNat = 0 from rfl] at hx139_0); (try rw [Addr.add_zero'] at hx139_0); replace p139 := eq_true p139; replace q139 := eq_true q139) | (go_at_call 33; (with_reducible refine (spec_l01Bit.calls ((rdOf ByteArray.empty t132 0).toList == ([116,50] : List UInt8)) t140 _ A16.out).mono ?_); rintro e w' ⟨rfl,⟨nd,rfl⟩⟩; (try first | exact ⟨rfl,_,World.drewN_drewN _ _ _⟩ | exact ⟨rfl,_,Eq.trans (World.drewN_drewN _ _ _) (congrArg (World.drewN _) (Nat.add_assoc _ _ _))⟩); have p141 : 0 ≤ (1 : Int) := (by omega); have q141 : 1 < (t132.length : Int) := od; obtain ⟨ad141,e141,hx141_0⟩ := Kd.at_string (Kd.R_reads' HO_6.out).2.2 1 p141 q141; obtain rfl : ad137 = ad141 := (by injection e141); (try simp only [show (1 : Int).toNat = 1 from rfl,Nat.reduceMul,Nat.reduceEqDiff,Go.Addr.add,↓reduceIte] at hx141_0); have qi141 : (1 < t132.length) = True := eq_true (by omega); (try rw [show ((1 : Int)).toNat = 1 from rfl] at hx141_0); replace p141 := eq_true p141; replace q141 := eq_true q141) | (go_at_call 34; (with_reducible refine (spec_l03Fixed.calls kj2 ((rdOf ByteArray.empty t132 1).extract 0 6) t142 t143 _ A20.out).mono ?_); rintro e w' ⟨rfl,⟨nd,rfl⟩⟩; (try first | exact ⟨rfl,_,World.drewN_drewN _ _ _⟩ | exact ⟨rfl,_,Eq.trans (World.drewN_drewN _ _ _) (congrArg (World.drewN _) (Nat.add_assoc _ _ _))⟩); have p144 : 0 ≤ (1 : Int) := (by omega); have q144 : 1 < (t132.length : Int) := od; obtain ⟨ad144,e144,hx144_0⟩ := Kd.at_string (Kd.R_reads' HO_6.out).2.2 1 p144 q144; obtain rfl : ad137 = ad144 := (by injection e144); (try simp only [show (1 : Int).toNat = 1 from rfl,Nat.reduceMul,Nat.reduceEqDiff,Go.Addr.add,↓reduceIte] at hx144_0); have qi144 : (1 < t132.length) = True := eq_true (by omega); (try rw [show ((1 : Int)).toNat = 1 from rfl] at hx144_0); replace p144 := eq_true p144; replace q144 := eq_true q144) | (go_at_call 34; (with_reducible refine (spec_l03Fixed.calls kj2 ((rdOf ByteArray.empty t132 1).extract 7 (rdOf ByteArray.empty t132 1).size) t145 t146 _ A22.out).mono ?_); rintro e w' ⟨rfl,⟨nd,rfl⟩⟩; (try first | exact ⟨rfl,_,World.drewN_drewN _ _ _⟩ | exact ⟨rfl,_,Eq.trans (World.drewN_drewN _ _ _) (congrArg (World.drewN _) (Nat.add_assoc _ _ _))⟩))); go_upto_region 7 with (first | (go_at_call 33; (with_reducible refine (spec_l01Bit.calls ((rdOf ByteArray.empty t132 0).toList == ([116,49] : List UInt8)) t138 _ A15.out).mono ?_); rintro e w' ⟨rfl,⟨nd,rfl⟩⟩; (try first | exact ⟨rfl,_,World.drewN_drewN _ _ _⟩ | exact ⟨rfl,_,Eq.trans (World.drewN_drewN _ _ _) (congrArg (World.drewN _) (Nat.add_assoc _ _ _))⟩); have p139 : 0 ≤ (0 : Int) := (by omega); have q139 : 0 < (t132.length : Int) := od; obtain ⟨ad139,e139,hx139_0⟩ := Kd.at_string (Kd.R_reads' HO_6.out).2.2 0 p139 q139; obtain rfl : ad137 = ad139 := (by injection e139); have qi139 : (0 < t132.length) = True := eq_true (by omega); (try rw [show ((0 : Int)).toNat = 0 from rfl] at hx139_0); (try rw [Addr.add_zero'] at hx139_0); replace p139 := eq_true p139; replace q139 := eq_true q139) | (go_at_call 33; (with_reducible refine (spec_l01Bit.calls ((rdOf ByteArray.empty t132 0).toList == ([116,50] : List UInt8)) t140 _ A16.out).mono ?_); rintro e w' ⟨rfl,⟨nd,rfl⟩⟩; (try first | exact ⟨rfl,_,World.drewN_drewN _ _ _⟩ | exact ⟨rfl,_,Eq.trans (World.drewN_drewN _ _ _) (congrArg (World.drewN _) (Nat.add_assoc _ _ _))⟩); have p141 : 0 ≤ (1 : Int) := (by omega); have q141 : 1 < (t132.length : Int) := od; obtain ⟨ad141,e141,hx141_0⟩ := Kd.at_string (Kd.R_reads' HO_6.out).2.2 1 p141 q141; obtain rfl : ad137 = ad141 := (by injection e141); (try simp only [show (1 : Int).toNat = 1 from rfl,Nat.reduceMul,Nat.reduceEqDiff,Go.Addr.add,↓reduceIte] at hx141_0); have qi141 : (1 < t132.length) = True := eq_true (by omega); (try rw [show ((1 : Int)).toNat = 1 from rfl] at hx141_0); replace p141 := eq_true p141; replace q141 := eq_true q141) | (go_at_call 34; (with_reducible refine (spec_l03Fixed.calls kj2 ((rdOf ByteArray.empty t132 1).extract 0 6) t142 t143 _ A20.out).mono ?_); rintro e w' ⟨rfl,⟨nd,rfl⟩⟩; (try first | exact ⟨rfl,_,World.drewN_drewN _ _ _⟩ | exact ⟨rfl,_,Eq.trans (World.drewN_drewN _ _ _) (congrArg (World.drewN _) (Nat.add_assoc _ _ _))⟩); have p144 : 0 ≤ (1 : Int) := (by omega); have q144 : 1 < (t132.length : Int) := od; obtain ⟨ad144,e144,hx144_0⟩ := Kd.at_string (Kd.R_reads' HO_6.out).2.2 1 p144 q144; obtain rfl : ad137 = ad144 := (by injection e144); (try simp only [show (1 : Int).toNat = 1 from rfl,Nat.reduceMul,Nat.reduceEqDiff,Go.Addr.add,↓reduceIte] at hx144_0); have qi144 : (1 < t132.length) = True := eq_true (by omega); (try rw [show ((1 : Int)).toNat = 1 from rfl] at hx144_0); replace p144 := eq_true p144; replace q144 := eq_true q144) | (go_at_call 34; (with_reducible refine (spec_l03Fixed.calls kj2 ((rdOf ByteArray.empty t132 1).extract 7 (rdOf ByteArray.empty t132 1).size) t145 t146 _ A22.out).mono ?_); rintro e w' ⟨rfl,⟨nd,rfl⟩⟩; (try first | exact ⟨rfl,_,World.drewN_drewN _ _ _⟩ | exact ⟨rfl,_,Eq.trans (World.drewN_drewN _ _ _) (congrArg (World.drewN _) (Nat.add_assoc _ _ _))⟩))))
         (try simp only [Act.put,setIfInBounds_toArray,set_cons_zero,set_cons_succ])
         go_cut [79] (fun v79 wc => ∃ (kq : Nat) (x79_22 : Bool),v79 = .bool x79_22 ∧ Aside0 (spec_l03ToKey.j1 kq (wrap64 (t138 + (wrap64 (2 * t140)))) t142 t145 x79_22 = some (r1,r2,r3,r4)) ∧ Aside0 (kq ≤ kj2) ∧ Aside0 (Below w.heap.size w wc))
         case first =>
          have H := HC23.out
          clear HC23
          by_cases c25 : t143 = true
          ·subst c25
           rw [if_pos rfl] at H
           by_cases c26 : t146 = true
           ·subst c26
            rw [if_pos rfl] at H
            replace H := Option.bind_eq_some_iff.mp H
            obtain ⟨t147,A270,H⟩ := H
            try dsimp only at H
            have A27 := Aside0.mk A270
            clear A270
            by_cases c28 : t147 = true
            ·subst c28
             rw [if_pos rfl] at H
             replace H := Option.bind_eq_some_iff.mp H
             obtain ⟨t148,A290,H⟩ := H
             try dsimp only at H
             have A29 := Aside0.mk A290
             clear A290
             have H' := Aside0.mk H
             clear H
             go_wp2_with (first | (go_at_call 35; (with_reducible refine (spec_l03KeyOK.calls (wrap64 (t138 + (wrap64 (2 * t140)))) t142 t145 true _ A27.out).mono ?_); rintro e w' ⟨rfl,⟨nd,rfl⟩⟩; (try first | exact ⟨rfl,_,World.drewN_drewN _ _ _⟩ | exact ⟨rfl,_,Eq.trans (World.drewN_drewN _ _ _) (congrArg (World.drewN _) (Nat.add_assoc _ _ _))⟩)) | (go_at_call 36; (with_reducible refine (spec_l03Key.calls kj2 (wrap64 (t138 + (wrap64 (2 * t140)))) t142 t145 t148 _ A29.out).mono ?_); rintro e w30 ⟨rfl,hb⟩; have n0_ := Aside0.mk (Kd.R_below (rA HO_6.out) hb); have n1_ := Aside0.mk (below_step bA hb); clear HO_6; clear HB; have HO_6 := n0_; have HB := n1_; clear n0_ n1_; (try clear hb); (try clear hb2); (try clear hk); (try clear hi)))
             repeat (go_quiet (first | (go_at_call 35; (with_reducible refine (spec_l03KeyOK.calls (wrap64 (t138 + (wrap64 (2 * t140)))) t142 t145 true _ A27.out).mono ?_); rintro e w' ⟨rfl,⟨nd,rfl⟩⟩; (try first | exact ⟨rfl,_,World.drewN_drewN _ _ _⟩ | exact ⟨rfl,_,Eq.trans (World.drewN_drewN _ _ _) (congrArg (World.drewN _) (Nat.add_assoc _ _ _))⟩)) | (go_at_call 36; (with_reducible refine (spec_l03Key.calls kj2 (wrap64 (t138 + (wrap64 (2 * t140)))) t142 t145 t148 _ A29.out).mono ?_); rintro e w30 ⟨rfl,hb⟩; have n0_ := Aside0.mk (Kd.R_below (rA HO_6.out) hb); have n1_ := Aside0.mk (below_step bA hb); clear HO_6; clear HB; have HO_6 := n0_; have HB := n1_; clear n0_ n1_; (try clear hb); (try clear hb2); (try clear hk); (try clear hi))); try go_wp2_with (first | (go_at_call 35; (with_reducible refine (spec_l03KeyOK.calls (wrap64 (t138 + (wrap64 (2 * t140)))) t142 t145 true _ A27.out).mono ?_); rintro e w' ⟨rfl,⟨nd,rfl⟩⟩; (try first | exact ⟨rfl,_,World.drewN_drewN _ _ _⟩ | exact ⟨rfl,_,Eq.trans (World.drewN_drewN _ _ _) (congrArg (World.drewN _) (Nat.add_assoc _ _ _))⟩)) | (go_at_call 36; (with_reducible refine (spec_l03Key.calls kj2 (wrap64 (t138 + (wrap64 (2 * t140)))) t142 t145 t148 _ A29.out).mono ?_); rintro e w30 ⟨rfl,hb⟩; have n0_ := Aside0.mk (Kd.R_below (rA HO_6.out) hb); have n1_ := Aside0.mk (below_step bA hb); clear HO_6; clear HB; have HO_6 := n0_; have HB := n1_; clear n0_ n1_; (try clear hb); (try clear hb2); (try clear hk); (try clear hi))))
             go_meet
             case rel => exact ⟨_,((t148.toList != a0.toList)),(by first | rfl | (simp; done) | (simp [*]; done)),H',⟨by have := HJ2.out; first | omega | exact Nat.le_refl _⟩,⟨bA⟩⟩
            ·replace c28 := Bool.eq_false_iff.mpr c28
             subst c28
             rw [if_neg (show ¬ (false = true) by decide)] at H
             have H' := Aside0.mk H
             clear H
             go_wp2_with (first | (go_at_call 35; (with_reducible refine (spec_l03KeyOK.calls (wrap64 (t138 + (wrap64 (2 * t140)))) t142 t145 false _ A27.out).mono ?_); rintro e w' ⟨rfl,⟨nd,rfl⟩⟩; (try first | exact ⟨rfl,_,World.drewN_drewN _ _ _⟩ | exact ⟨rfl,_,Eq.trans (World.drewN_drewN _ _ _) (congrArg (World.drewN _) (Nat.add_assoc _ _ _))⟩)))
             repeat (go_quiet (first | (go_at_call 35; (with_reducible refine (spec_l03KeyOK.calls (wrap64 (t138 + (wrap64 (2 * t140)))) t142 t145 false _ A27.out).mono ?_); rintro e w' ⟨rfl,⟨nd,rfl⟩⟩; (try first | exact ⟨rfl,_,World.drewN_drewN _ _ _⟩ | exact ⟨rfl,_,Eq.trans (World.drewN_drewN _ _ _) (congrArg (World.drewN _) (Nat.add_assoc _ _ _))⟩))); try go_wp2_with (first | (go_at_call 35; (with_reducible refine (spec_l03KeyOK.calls (wrap64 (t138 + (wrap64 (2 * t140)))) t142 t145 false _ A27.out).mono ?_); rintro e w' ⟨rfl,⟨nd,rfl⟩⟩; (try first | exact ⟨rfl,_,World.drewN_drewN _ _ _⟩ | exact ⟨rfl,_,Eq.trans (World.drewN_drewN _ _ _) (congrArg (World.drewN _) (Nat.add_assoc _ _ _))⟩))))
             go_meet
             case rel => exact ⟨_,(true),(by first | rfl | (simp; done) | (simp [*]; done)),H',⟨by have := HJ2.out; first | omega | exact Nat.le_refl _⟩,⟨bA⟩⟩
           ·replace c26 := Bool.eq_false_iff.mpr c26
            subst c26
            rw [if_neg (show ¬ (false = true) by decide)] at H
            have H' := Aside0.mk H
            clear H
            go_wp2
            repeat (go_quiet (fail); try go_wp2)
            go_meet
            case rel => exact ⟨_,(true),(by first | rfl | (simp; done) | (simp [*]; done)),H',⟨by have := HJ2.out; first | omega | exact Nat.le_refl _⟩,⟨bA⟩⟩
          ·replace c25 := Bool.eq_false_iff.mpr c25
           subst c25
           rw [if_neg (show ¬ (false = true) by decide)] at H
           have H' := Aside0.mk H
           clear H
           go_wp2
           repeat (go_quiet (fail); try go_wp2)
           go_meet
           case rel => exact ⟨_,(true),(by first | rfl | (simp; done) | (simp [*]; done)),H',⟨by have := HJ2.out; first | omega | exact Nat.le_refl _⟩,⟨bA⟩⟩
         case rest =>
          clear HC23
          try clear c1
          try clear p1
          try clear q1
          try clear hx1
          try clear qi1
          try clear c2
          try clear p2
          try clear c5
          try clear c5b0
          try clear c5b1
          try clear c6
          try clear c6b0
          try clear c6b1
          try clear p6
          try clear c7
          try clear c7b0
          try clear c7b1
          try clear c8
          try clear c8b0
          try clear c8b1
          try clear p9
          try clear q9
          try clear hx9
          try clear qi9
          try clear c13
          try clear p13
          try clear q13
          try clear hx13
          try clear qi13
          try clear c14
          try clear c14b0
          try clear c14b1
          try clear p14
          try clear q14
          try clear hx14
          try clear qi14
          try clear c17
          try clear c17b0
          try clear c17b1
          try clear c18
          try clear c18b0
          try clear c18b1
          try clear c19
          try clear c19b0
          try clear c19b1
          try clear c21
          try clear c21b0
          try clear c21b1
          try clear c25
          try clear c26
          try clear c28
          try clear hx135_0
          try clear hx136_0
          try clear hx137_0
          try clear hx139_0
          try clear hx141_0
          try clear hx144_0
          try clear p1
          try clear p135
          try clear p136
          try clear p137
          try clear p139
          try clear p141
          try clear p144
          try clear p2
          try clear p9
          try clear q1
          try clear q135
          try clear q136
          try clear q137
          try clear q139
          try clear q141
          try clear q144
          try clear q9
          obtain ⟨kq,x79_22,rfl,HA,HJ22,HB⟩ := hcut
          cases kq with
          | zero => exact absurd HA.out (by simp [spec_l03ToKey.j1])
          | succ kj22 =>
           have H := HA.out
           clear HA
           simp only [spec_l03ToKey.j1] at H
           by_cases c31 : x79_22 = true
           ·subst c31
            rw [if_pos rfl] at H
            simp only [Option.some.injEq,Prod.mk.injEq] at H
            obtain ⟨rfl,rfl,rfl,rfl⟩ := H
            go_wp2
            repeat (go_quiet (fail); try go_wp2)
            refine bodyPost_ret (results_list (rs := [.tmp 2,.tmp 3,.tmp 4,.tmp 5]) rfl (by simp) (.tmp (.tmp (.tmp (.tmp .nil))))) rfl ?_
            exact ⟨by first | rfl | (simp only [i64_w,i32_w] <;> rfl) | (simp [errW_none,errW_some] <;> rfl) | (simp [*,errW_none,errW_some] <;> rfl),bA⟩
           ·replace c31 := Bool.eq_false_iff.mpr c31
            subst c31
            rw [if_neg (show ¬ (false = true) by decide)] at H
            simp only [Option.some.injEq,Prod.mk.injEq] at H
            obtain ⟨rfl,rfl,rfl,rfl⟩ := H
            go_wp2
            repeat (go_quiet (fail); try go_wp2)
            refine bodyPost_ret (results_list (rs := [.tmp 2,.tmp 3,.tmp 4,.tmp 5]) rfl (by simp) (.tmp (.tmp (.tmp (.tmp .nil))))) rfl ?_
            exact ⟨by first | rfl | (simp only [i64_w,i32_w] <;> rfl) | (simp [errW_none,errW_some] <;> rfl) | (simp [*,errW_none,errW_some] <;> rfl),bA⟩
        ·rw [if_neg c21] at H
         exact absurd H (by simp)
       ·rw [if_neg c19] at H
        exact absurd H (by simp)
      ·rw [if_neg c18] at H
       exact absurd H (by simp)
     ·rw [if_neg c17] at H
      exact absurd H (by simp)
    ·rw [if_neg c14] at H
     exact absurd H (by simp)

/-! ### spec_l06Tiered: function 9 -/
def spec_l06Tiered.f (k : Nat) (a0_0 : Int) (a0_1 : Int) (a0_2 : Int) (a0_3 : Int) (a0_4 : Int) (a0_5 : ByteArray) (a1 : Int) : Option (Bool) := (spec_l03ToKey.f k a0_5).bind fun bt150 => (if bt150.2.2.2 = true then (if bt150.1 = a0_2 then ((spec_l01In.f a0_2 a1 2).bind fun t154 => (if t154 = true then ((spec_l04Range.f a0_3 a0_4).bind fun t155 => (if t155 = true then (some (decide (a0_3 < a0_4))) else (some false))) else (some false))) else (some false)) else (some false))
theorem spec_l06Tiered.mono : ∀ a0 a1 a2 a3 a4 a5 a6 k,LeO (spec_l06Tiered.f k a0 a1 a2 a3 a4 a5 a6) (spec_l06Tiered.f (k + 1) a0 a1 a2 a3 a4 a5 a6) := by
 intro a0 a1 a2 a3 a4 a5 a6 k
 unfold spec_l06Tiered.f
 repeat' first
   | (with_reducible exact spec_l03ToKey.mono _ _)
   | (with_reducible exact LeO.refl _)
   | (with_reducible exact LeO.none _)
   | (with_reducible refine LeO.ite ?_ ?_)
   | (with_reducible refine LeO.bind ?_ (fun _ => ?_))
   | exact spec_l03ToKey.mono _ _
   | exact LeO.none _
   | refine LeO.ite ?_ ?_
   | refine LeO.bind ?_ (fun _ => ?_)
set_option maxHeartbeats 8000000 in
set_option maxRecDepth 100000 in
theorem spec_l06Tiered.calls (k : Nat) (a0_0 : Int) (a0_1 : Int) (a0_2 : Int) (a0_3 : Int) (a0_4 : Int) (a0_5 : ByteArray) (a1 : Int) (r : Bool) (w : World) (h : spec_l06Tiered.f k a0_0 a0_1 a0_2 a0_3 a0_4 a0_5 a1 = some r) :
  Calls Tryz.prog 9 #[.agg #[.int .i64 a0_0,.int .i64 a0_1,.int .i64 a0_2,.int .i64 a0_3,.int .i64 a0_4,.string a0_5],.int .i64 a1] w fun e w' => e = .returned (.bool r) ∧ Below w.heap.size w w' := by
 have hu35 := Tryz.underlying35
 have HB := Aside0.mk (Below.refl w.heap.size w)
 have H : ((spec_l03ToKey.f k a0_5).bind fun bt150 => (if bt150.2.2.2 = true then (if bt150.1 = a0_2 then ((spec_l01In.f a0_2 a1 2).bind fun t154 => (if t154 = true then ((spec_l04Range.f a0_3 a0_4).bind fun t155 => (if t155 = true then (some (decide (a0_3 < a0_4))) else (some false))) else (some false))) else (some false)) else (some false))) = some r := h
 clear h
 replace H := Option.bind_eq_some_iff.mp H
 obtain ⟨⟨t150,t151,t152,t153⟩,A30,H⟩ := H
 try dsimp only at H
 have A3 := Aside0.mk A30
 clear A30
 by_cases c4 : t153 = true
 ·subst c4
  rw [if_pos rfl] at H
  by_cases c5 : t150 = a0_2
  ·rw [if_pos c5] at H
   have c5b0 : (t150 == a0_2) = true := beq_iff_eq.mpr c5
   have c5b1 : (t150 != a0_2) = false := bne_eq_false_iff_eq.mpr c5
   clear c5
   replace H := Option.bind_eq_some_iff.mp H
   obtain ⟨t154,A60,H⟩ := H
   try dsimp only at H
   have A6 := Aside0.mk A60
   clear A60
   by_cases c7 : t154 = true
   ·subst c7
    rw [if_pos rfl] at H
    replace H := Option.bind_eq_some_iff.mp H
    obtain ⟨t155,A80,H⟩ := H
    try dsimp only at H
    have A8 := Aside0.mk A80
    clear A80
    by_cases c9 : t155 = true
    ·subst c9
     rw [if_pos rfl] at H
     obtain rfl := Option.some.inj H
     go_enter Tryz.func9,Tryz.ntmps9
     go_wp2_with (first | ((with_reducible refine gate_dst (N:=2) rfl ?_); refine box_event ?hg (N:=2) ?hd (cs := #[.int .i64 a0_0,.int .i64 a0_1,.int .i64 a0_2,.int .i64 a0_3,.int .i64 a0_4,.string a0_5]) (t:=35) ?hr ?_; (case hd => rfl); (case hg => rfl); (case hr => first | (go_simp; done) | (go_simp; rfl)); intro gb149 hg w10 hbox hb; have n0_ := Aside0.mk (below_step bA hb); have n1_ := Aside0.mk (hbox); have n2_ := Aside0.mk ((gw hg : w.heap.size ≤ gb149)); have n3_ := Aside0.mk ((gw hg : w.heap.size ≤ gb149)); clear HB; have HB := n0_; have BK149 := n1_; have GW149 := n2_; have GE149 := n3_; clear n0_ n1_ n2_ n3_; clear hb hbox hg; have hcz11_0 : w10.cell? ⟨gb149,0,none⟩ = some (.int .i64 a0_0) := (blk_cell BK149.out 0).trans rfl; have hcz11_1 : w10.cell? ⟨gb149,1,none⟩ = some (.int .i64 a0_1) := (blk_cell BK149.out 1).trans rfl; have hcz11_2 : w10.cell? ⟨gb149,2,none⟩ = some (.int .i64 a0_2) := (blk_cell BK149.out 2).trans rfl; have hcz11_3 : w10.cell? ⟨gb149,3,none⟩ = some (.int .i64 a0_3) := (blk_cell BK149.out 3).trans rfl; have hcz11_4 : w10.cell? ⟨gb149,4,none⟩ = some (.int .i64 a0_4) := (blk_cell BK149.out 4).trans rfl; have hcz11_5 : w10.cell? ⟨gb149,5,none⟩ = some (.string a0_5) := (blk_cell BK149.out 5).trans rfl; have hfz11_0 := blk_frozen BK149.out 0; have hfz11_1 := blk_frozen BK149.out 1; have hfz11_2 := blk_frozen BK149.out 2; have hfz11_3 := blk_frozen BK149.out 3; have hfz11_4 := blk_frozen BK149.out 4; have hfz11_5 := blk_frozen BK149.out 5) | ((with_reducible refine gate_callee (f:=17) rfl ?_); refine goesL_ (some 12) rfl rfl Tryz.func17 (by kernel_rfl) rfl #[.string a0_5] rfl mA ?_; (with_reducible refine (spec_l03ToKey.calls k a0_5 t150 t151 t152 true _ A3.out).mono ?_); rintro e w12 ⟨rfl,hb⟩; refine ⟨_,rfl,?_⟩; have n0_ := Aside0.mk (blk_below (g:=gb149) (o:=.cells #[.int .i64 a0_0,.int .i64 a0_1,.int .i64 a0_2,.int .i64 a0_3,.int .i64 a0_4,.string a0_5] 35 (0,0)) (kA BK149.out) hb); have n1_ := Aside0.mk (below_step bA hb); clear BK149; clear HB; have BK149 := n0_; have HB := n1_; clear n0_ n1_; (try clear hb); (try clear hb2); (try clear hk); (try clear hi); have hcz13_0 : w12.cell? ⟨gb149,0,none⟩ = some (.int .i64 a0_0) := (blk_cell BK149.out 0).trans rfl; have hcz13_1 : w12.cell? ⟨gb149,1,none⟩ = some (.int .i64 a0_1) := (blk_cell BK149.out 1).trans rfl; have hcz13_2 : w12.cell? ⟨gb149,2,none⟩ = some (.int .i64 a0_2) := (blk_cell BK149.out 2).trans rfl; have hcz13_3 : w12.cell? ⟨gb149,3,none⟩ = some (.int .i64 a0_3) := (blk_cell BK149.out 3).trans rfl; have hcz13_4 : w12.cell? ⟨gb149,4,none⟩ = some (.int .i64 a0_4) := (blk_cell BK149.out 4).trans rfl; have hcz13_5 : w12.cell? ⟨gb149,5,none⟩ = some (.string a0_5) := (blk_cell BK149.out 5).trans rfl; have hfz13_0 := blk_frozen BK149.out 0; have hfz13_1 := blk_frozen BK149.out 1; have hfz13_2 := blk_frozen BK149.out 2; have hfz13_3 := blk_frozen BK149.out 3; have hfz13_4 := blk_frozen BK149.out 4; have hfz13_5 := blk_frozen BK149.out 5) | (go_at_call 18; (with_reducible refine (spec_l01In.calls a0_2 a1 2 true _ A6.out).mono ?_); rintro e w' ⟨rfl,⟨nd,rfl⟩⟩) | (go_at_call 10; (with_reducible refine (spec_l04Range.calls a0_3 a0_4 true _ A8.out).mono ?_); rintro e w' ⟨rfl,⟨nd,rfl⟩⟩))
     go_ret
     exact ⟨by first | rfl | (simp [errW_none,errW_some] <;> rfl) | (simp [*,errW_none,errW_some] <;> rfl),bA⟩
    ·replace c9 := Bool.eq_false_iff.mpr c9
     subst c9
     rw [if_neg (show ¬ (false = true) by decide)] at H
     obtain rfl := Option.some.inj H
     go_enter Tryz.func9,Tryz.ntmps9
     go_wp2_with (first | ((with_reducible refine gate_dst (N:=2) rfl ?_); refine box_event ?hg (N:=2) ?hd (cs := #[.int .i64 a0_0,.int .i64 a0_1,.int .i64 a0_2,.int .i64 a0_3,.int .i64 a0_4,.string a0_5]) (t:=35) ?hr ?_; (case hd => rfl); (case hg => rfl); (case hr => first | (go_simp; done) | (go_simp; rfl)); intro gb149 hg w14 hbox hb; have n0_ := Aside0.mk (below_step bA hb); have n1_ := Aside0.mk (hbox); have n2_ := Aside0.mk ((gw hg : w.heap.size ≤ gb149)); have n3_ := Aside0.mk ((gw hg : w.heap.size ≤ gb149)); clear HB; have HB := n0_; have BK149 := n1_; have GW149 := n2_; have GE149 := n3_; clear n0_ n1_ n2_ n3_; clear hb hbox hg; have hcz15_0 : w14.cell? ⟨gb149,0,none⟩ = some (.int .i64 a0_0) := (blk_cell BK149.out 0).trans rfl; have hcz15_1 : w14.cell? ⟨gb149,1,none⟩ = some (.int .i64 a0_1) := (blk_cell BK149.out 1).trans rfl; have hcz15_2 : w14.cell? ⟨gb149,2,none⟩ = some (.int .i64 a0_2) := (blk_cell BK149.out 2).trans rfl; have hcz15_3 : w14.cell? ⟨gb149,3,none⟩ = some (.int .i64 a0_3) := (blk_cell BK149.out 3).trans rfl; have hcz15_4 : w14.cell? ⟨gb149,4,none⟩ = some (.int .i64 a0_4) := (blk_cell BK149.out 4).trans rfl; have hcz15_5 : w14.cell? ⟨gb149,5,none⟩ = some (.string a0_5) := (blk_cell BK149.out 5).trans rfl; have hfz15_0 := blk_frozen BK149.out 0; have hfz15_1 := blk_frozen BK149.out 1; have hfz15_2 := blk_frozen BK149.out 2; have hfz15_3 := blk_frozen BK149.out 3; have hfz15_4 := blk_frozen BK149.out 4; have hfz15_5 := blk_frozen BK149.out 5) | ((with_reducible refine gate_callee (f:=17) rfl ?_); refine goesL_ (some 12) rfl rfl Tryz.func17 (by kernel_rfl) rfl #[.string a0_5] rfl mA ?_; (with_reducible refine (spec_l03ToKey.calls k a0_5 t150 t151 t152 true _ A3.out).mono ?_); rintro e w16 ⟨rfl,hb⟩; refine ⟨_,rfl,?_⟩; have n0_ := Aside0.mk (blk_below (g:=gb149) (o:=.cells #[.int .i64 a0_0,.int .i64 a0_1,.int .i64 a0_2,.int .i64 a0_3,.int .i64 a0_4,.string a0_5] 35 (0,0)) (kA BK149.out) hb); have n1_ := Aside0.mk (below_step bA hb); clear BK149; clear HB; have BK149 := n0_; have HB := n1_; clear n0_ n1_; (try clear hb); (try clear hb2); (try clear hk); (try clear hi); have hcz17_0 : w16.cell? ⟨gb149,0,none⟩ = some (.int .i64 a0_0) := (blk_cell BK149.out 0).trans rfl; have hcz17_1 : w16.cell? ⟨gb149,1,none⟩ = some (.int .i64 a0_1) := (blk_cell BK149.out 1).trans rfl; have hcz17_2 : w16.cell? ⟨gb149,2,none⟩ = some (.int .i64 a0_2) := (blk_cell BK149.out 2).trans rfl; have hcz17_3 : w16.cell? ⟨gb149,3,none⟩ = some (.int .i64 a0_3) := (blk_cell BK149.out 3).trans rfl; have hcz17_4 : w16.cell? ⟨gb149,4,none⟩ = some (.int .i64 a0_4) := (blk_cell BK149.out 4).trans rfl; have hcz17_5 : w16.cell? ⟨gb149,5,none⟩ = some (.string a0_5) := (blk_cell BK149.out 5).trans rfl; have hfz17_0 := blk_frozen BK149.out 0; have hfz17_1 := blk_frozen BK149.out 1; have hfz17_2 := blk_frozen BK149.out 2; have hfz17_3 := blk_frozen BK149.out 3; have hfz17_4 := blk_frozen BK149.out 4; have hfz17_5 := blk_frozen BK149.out 5) | (go_at_call 18; (with_reducible refine (spec_l01In.calls a0_2 a1 2 true _ A6.out).mono ?_); rintro e w' ⟨rfl,⟨nd,rfl⟩⟩) | (go_at_call 10; (with_reducible refine (spec_l04Range.calls a0_3 a0_4 false _ A8.out).mono ?_); rintro e w' ⟨rfl,⟨nd,rfl⟩⟩))
     go_ret
     exact ⟨by first | rfl | (simp [errW_none,errW_some] <;> rfl) | (simp [*,errW_none,errW_some] <;> rfl),bA⟩
   ·replace c7 := Bool.eq_false_iff.mpr c7
    subst c7
    rw [if_neg (show ¬ (false = true) by decide)] at H
    obtain rfl := Option.some.inj H
    go_enter Tryz.func9,Tryz.ntmps9
    go_wp2_with (first | ((with_reducible refine gate_dst (N:=2) rfl ?_); refine box_event ?hg (N:=2) ?hd (cs := #[.int .i64 a0_0,.int .i64 a0_1,.int .i64 a0_2,.int .i64 a0_3,.int .i64 a0_4,.string a0_5]) (t:=35) ?hr ?_; (case hd => rfl); (case hg => rfl); (case hr => first | (go_simp; done) | (go_simp; rfl)); intro gb149 hg w18 hbox hb; have n0_ := Aside0.mk (below_step bA hb); have n1_ := Aside0.mk (hbox); have n2_ := Aside0.mk ((gw hg : w.heap.size ≤ gb149)); have n3_ := Aside0.mk ((gw hg : w.heap.size ≤ gb149)); clear HB; have HB := n0_; have BK149 := n1_; have GW149 := n2_; have GE149 := n3_; clear n0_ n1_ n2_ n3_; clear hb hbox hg; have hcz19_0 : w18.cell? ⟨gb149,0,none⟩ = some (.int .i64 a0_0) := (blk_cell BK149.out 0).trans rfl; have hcz19_1 : w18.cell? ⟨gb149,1,none⟩ = some (.int .i64 a0_1) := (blk_cell BK149.out 1).trans rfl; have hcz19_2 : w18.cell? ⟨gb149,2,none⟩ = some (.int .i64 a0_2) := (blk_cell BK149.out 2).trans rfl; have hcz19_3 : w18.cell? ⟨gb149,3,none⟩ = some (.int .i64 a0_3) := (blk_cell BK149.out 3).trans rfl; have hcz19_4 : w18.cell? ⟨gb149,4,none⟩ = some (.int .i64 a0_4) := (blk_cell BK149.out 4).trans rfl; have hcz19_5 : w18.cell? ⟨gb149,5,none⟩ = some (.string a0_5) := (blk_cell BK149.out 5).trans rfl; have hfz19_0 := blk_frozen BK149.out 0; have hfz19_1 := blk_frozen BK149.out 1; have hfz19_2 := blk_frozen BK149.out 2; have hfz19_3 := blk_frozen BK149.out 3; have hfz19_4 := blk_frozen BK149.out 4; have hfz19_5 := blk_frozen BK149.out 5) | ((with_reducible refine gate_callee (f:=17) rfl ?_); refine goesL_ (some 12) rfl rfl Tryz.func17 (by kernel_rfl) rfl #[.string a0_5] rfl mA ?_; (with_reducible refine (spec_l03ToKey.calls k a0_5 t150 t151 t152 true _ A3.out).mono ?_); rintro e w20 ⟨rfl,hb⟩; refine ⟨_,rfl,?_⟩; have n0_ := Aside0.mk (blk_below (g:=gb149) (o:=.cells #[.int .i64 a0_0,.int .i64 a0_1,.int .i64 a0_2,.int .i64 a0_3,.int .i64 a0_4,.string a0_5] 35 (0,0)) (kA BK149.out) hb); have n1_ := Aside0.mk (below_step bA hb); clear BK149; clear HB; have BK149 := n0_; have HB := n1_; clear n0_ n1_; (try clear hb); (try clear hb2); (try clear hk); (try clear hi); have hcz21_0 : w20.cell? ⟨gb149,0,none⟩ = some (.int .i64 a0_0) := (blk_cell BK149.out 0).trans rfl; have hcz21_1 : w20.cell? ⟨gb149,1,none⟩ = some (.int .i64 a0_1) := (blk_cell BK149.out 1).trans rfl; have hcz21_2 : w20.cell? ⟨gb149,2,none⟩ = some (.int .i64 a0_2) := (blk_cell BK149.out 2).trans rfl; have hcz21_3 : w20.cell? ⟨gb149,3,none⟩ = some (.int .i64 a0_3) := (blk_cell BK149.out 3).trans rfl; have hcz21_4 : w20.cell? ⟨gb149,4,none⟩ = some (.int .i64 a0_4) := (blk_cell BK149.out 4).trans rfl; have hcz21_5 : w20.cell? ⟨gb149,5,none⟩ = some (.string a0_5) := (blk_cell BK149.out 5).trans rfl; have hfz21_0 := blk_frozen BK149.out 0; have hfz21_1 := blk_frozen BK149.out 1; have hfz21_2 := blk_frozen BK149.out 2; have hfz21_3 := blk_frozen BK149.out 3; have hfz21_4 := blk_frozen BK149.out 4; have hfz21_5 := blk_frozen BK149.out 5) | (go_at_call 18; (with_reducible refine (spec_l01In.calls a0_2 a1 2 false _ A6.out).mono ?_); rintro e w' ⟨rfl,⟨nd,rfl⟩⟩))
    go_ret
    exact ⟨by first | rfl | (simp [errW_none,errW_some] <;> rfl) | (simp [*,errW_none,errW_some] <;> rfl),bA⟩
  ·rw [if_neg c5] at H
   have c5b0 : (t150 == a0_2) = false := beq_eq_false_iff_ne.mpr c5
   have c5b1 : (t150 != a0_2) = true := bne_iff_ne.mpr c5
   obtain rfl := Option.some.inj H
   go_enter Tryz.func9,Tryz.ntmps9
   go_wp2_with (first | ((with_reducible refine gate_dst (N:=2) rfl ?_); refine box_event ?hg (N:=2) ?hd (cs := #[.int .i64 a0_0,.int .i64 a0_1,.int .i64 a0_2,.int .i64 a0_3,.int .i64 a0_4,.string a0_5]) (t:=35) ?hr ?_; (case hd => rfl); (case hg => rfl); (case hr => first | (go_simp; done) | (go_simp; rfl)); intro gb149 hg w22 hbox hb; have n0_ := Aside0.mk (below_step bA hb); have n1_ := Aside0.mk (hbox); have n2_ := Aside0.mk ((gw hg : w.heap.size ≤ gb149)); have n3_ := Aside0.mk ((gw hg : w.heap.size ≤ gb149)); clear HB; have HB := n0_; have BK149 := n1_; have GW149 := n2_; have GE149 := n3_; clear n0_ n1_ n2_ n3_; clear hb hbox hg; have hcz23_0 : w22.cell? ⟨gb149,0,none⟩ = some (.int .i64 a0_0) := (blk_cell BK149.out 0).trans rfl; have hcz23_1 : w22.cell? ⟨gb149,1,none⟩ = some (.int .i64 a0_1) := (blk_cell BK149.out 1).trans rfl; have hcz23_2 : w22.cell? ⟨gb149,2,none⟩ = some (.int .i64 a0_2) := (blk_cell BK149.out 2).trans rfl; have hcz23_3 : w22.cell? ⟨gb149,3,none⟩ = some (.int .i64 a0_3) := (blk_cell BK149.out 3).trans rfl; have hcz23_4 : w22.cell? ⟨gb149,4,none⟩ = some (.int .i64 a0_4) := (blk_cell BK149.out 4).trans rfl; have hcz23_5 : w22.cell? ⟨gb149,5,none⟩ = some (.string a0_5) := (blk_cell BK149.out 5).trans rfl; have hfz23_0 := blk_frozen BK149.out 0; have hfz23_1 := blk_frozen BK149.out 1; have hfz23_2 := blk_frozen BK149.out 2; have hfz23_3 := blk_frozen BK149.out 3; have hfz23_4 := blk_frozen BK149.out 4; have hfz23_5 := blk_frozen BK149.out 5) | ((with_reducible refine gate_callee (f:=17) rfl ?_); refine goesL_ (some 12) rfl rfl Tryz.func17 (by kernel_rfl) rfl #[.string a0_5] rfl mA ?_; (with_reducible refine (spec_l03ToKey.calls k a0_5 t150 t151 t152 true _ A3.out).mono ?_); rintro e w24 ⟨rfl,hb⟩; refine ⟨_,rfl,?_⟩; have n0_ := Aside0.mk (blk_below (g:=gb149) (o:=.cells #[.int .i64 a0_0,.int .i64 a0_1,.int .i64 a0_2,.int .i64 a0_3,.int .i64 a0_4,.string a0_5] 35 (0,0)) (kA BK149.out) hb); have n1_ := Aside0.mk (below_step bA hb); clear BK149; clear HB; have BK149 := n0_; have HB := n1_; clear n0_ n1_; (try clear hb); (try clear hb2); (try clear hk); (try clear hi); have hcz25_0 : w24.cell? ⟨gb149,0,none⟩ = some (.int .i64 a0_0) := (blk_cell BK149.out 0).trans rfl; have hcz25_1 : w24.cell? ⟨gb149,1,none⟩ = some (.int .i64 a0_1) := (blk_cell BK149.out 1).trans rfl; have hcz25_2 : w24.cell? ⟨gb149,2,none⟩ = some (.int .i64 a0_2) := (blk_cell BK149.out 2).trans rfl; have hcz25_3 : w24.cell? ⟨gb149,3,none⟩ = some (.int .i64 a0_3) := (blk_cell BK149.out 3).trans rfl; have hcz25_4 : w24.cell? ⟨gb149,4,none⟩ = some (.int .i64 a0_4) := (blk_cell BK149.out 4).trans rfl; have hcz25_5 : w24.cell? ⟨gb149,5,none⟩ = some (.string a0_5) := (blk_cell BK149.out 5).trans rfl; have hfz25_0 := blk_frozen BK149.out 0; have hfz25_1 := blk_frozen BK149.out 1; have hfz25_2 := blk_frozen BK149.out 2; have hfz25_3 := blk_frozen BK149.out 3; have hfz25_4 := blk_frozen BK149.out 4; have hfz25_5 := blk_frozen BK149.out 5))
   go_ret
   exact ⟨by first | rfl | (simp [errW_none,errW_some] <;> rfl) | (simp [*,errW_none,errW_some] <;> rfl),bA⟩
 ·replace c4 := Bool.eq_false_iff.mpr c4
  subst c4
  rw [if_neg (show ¬ (false = true) by decide)] at H
  obtain rfl := Option.some.inj H
  go_enter Tryz.func9,Tryz.ntmps9
  go_wp2_with (first | ((with_reducible refine gate_dst (N:=2) rfl ?_); refine box_event ?hg (N:=2) ?hd (cs := #[.int .i64 a0_0,.int .i64 a0_1,.int .i64 a0_2,.int .i64 a0_3,.int .i64 a0_4,.string a0_5]) (t:=35) ?hr ?_; (case hd => rfl); (case hg => rfl); (case hr => first | (go_simp; done) | (go_simp; rfl)); intro gb149 hg w26 hbox hb; have n0_ := Aside0.mk (below_step bA hb); have n1_ := Aside0.mk (hbox); have n2_ := Aside0.mk ((gw hg : w.heap.size ≤ gb149)); have n3_ := Aside0.mk ((gw hg : w.heap.size ≤ gb149)); clear HB; have HB := n0_; have BK149 := n1_; have GW149 := n2_; have GE149 := n3_; clear n0_ n1_ n2_ n3_; clear hb hbox hg; have hcz27_0 : w26.cell? ⟨gb149,0,none⟩ = some (.int .i64 a0_0) := (blk_cell BK149.out 0).trans rfl; have hcz27_1 : w26.cell? ⟨gb149,1,none⟩ = some (.int .i64 a0_1) := (blk_cell BK149.out 1).trans rfl; have hcz27_2 : w26.cell? ⟨gb149,2,none⟩ = some (.int .i64 a0_2) := (blk_cell BK149.out 2).trans rfl; have hcz27_3 : w26.cell? ⟨gb149,3,none⟩ = some (.int .i64 a0_3) := (blk_cell BK149.out 3).trans rfl; have hcz27_4 : w26.cell? ⟨gb149,4,none⟩ = some (.int .i64 a0_4) := (blk_cell BK149.out 4).trans rfl; have hcz27_5 : w26.cell? ⟨gb149,5,none⟩ = some (.string a0_5) := (blk_cell BK149.out 5).trans rfl; have hfz27_0 := blk_frozen BK149.out 0; have hfz27_1 := blk_frozen BK149.out 1; have hfz27_2 := blk_frozen BK149.out 2; have hfz27_3 := blk_frozen BK149.out 3; have hfz27_4 := blk_frozen BK149.out 4; have hfz27_5 := blk_frozen BK149.out 5) | ((with_reducible refine gate_callee (f:=17) rfl ?_); refine goesL_ (some 12) rfl rfl Tryz.func17 (by kernel_rfl) rfl #[.string a0_5] rfl mA ?_; (with_reducible refine (spec_l03ToKey.calls k a0_5 t150 t151 t152 false _ A3.out).mono ?_); rintro e w28 ⟨rfl,hb⟩; refine ⟨_,rfl,?_⟩; have n0_ := Aside0.mk (blk_below (g:=gb149) (o:=.cells #[.int .i64 a0_0,.int .i64 a0_1,.int .i64 a0_2,.int .i64 a0_3,.int .i64 a0_4,.string a0_5] 35 (0,0)) (kA BK149.out) hb); have n1_ := Aside0.mk (below_step bA hb); clear BK149; clear HB; have BK149 := n0_; have HB := n1_; clear n0_ n1_; (try clear hb); (try clear hb2); (try clear hk); (try clear hi)))
  go_ret
  exact ⟨by first | rfl | (simp [errW_none,errW_some] <;> rfl) | (simp [*,errW_none,errW_some] <;> rfl),bA⟩

end Go.Proofs.YtleifhnoaaphmaaGreatDoor.XFnExactWindowOf
