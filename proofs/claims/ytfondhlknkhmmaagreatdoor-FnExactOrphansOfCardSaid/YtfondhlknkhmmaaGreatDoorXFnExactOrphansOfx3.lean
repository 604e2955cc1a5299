-- Printed by this session's own program wip/tools/xprint.py, which widens the kit's print. Not trusted: Lean checks it.
import Derived.Test.YtfondhlknkhmmaaGreatDoorXFnExactOrphansOfx0
import Derived.Test.YtfondhlknkhmmaaGreatDoorXFnExactOrphansOfx1
import Derived.Test.YtfondhlknkhmmaaGreatDoorXFnExactOrphansOfx2
namespace Go.Proofs.YtfondhlknkhmmaaGreatDoor.XFnExactOrphansOf
open List (setIfInBounds_toArray set_cons_zero set_cons_succ)
open Go.RowKit Go.Proofs.YtfondhlknkhmmaaGreatDoorW.PrintWords Go.Proofs.YtfondhlknkhmmaaGreatDoorW.PrintLast Go.Proofs.YtfondhlknkhmmaaGreatDoorW.PrintMore
attribute [local go_sem] max2_int min2_int max_two min_two max_three min_three max_four min_four   -- for this text's walks alone
set_option linter.unusedVariables false
set_option linter.unusedSimpArgs false

/-! ### spec_l03ToKey: function 37 -/
def spec_l03ToKey.j0 : Nat → ByteArray → List ByteArray → Bool → Option (Int × Int × Int × Bool)
 | 0,_,_,_ => none
 | k + 1,x0,x6,x30 => if x30 = true then (some (0,0,0,false)) else (if 0 < (x6.length : Int) then ((spec_l01Bit.f ((rdOf ByteArray.empty x6 0).toList == ([116,49] : List UInt8))).bind fun t145 => ((spec_l01Bit.f ((rdOf ByteArray.empty x6 0).toList == ([116,50] : List UInt8))).bind fun t147 => (if 1 < (x6.length : Int) then (if 0 ≤ 6 then (if 6 ≤ ((rdOf ByteArray.empty x6 1).size : Int) then ((spec_l03Fixed.f k ((rdOf ByteArray.empty x6 1).extract 0 6)).bind fun bt149 => (if 7 ≤ ((rdOf ByteArray.empty x6 1).size : Int) then ((spec_l03Fixed.f k ((rdOf ByteArray.empty x6 1).extract 7 (rdOf ByteArray.empty x6 1).size)).bind fun bt152 => (if bt149.2 = true then (if bt152.2 = true then ((spec_l03KeyOK.f (wrap64 (t145 + (wrap64 (2 * t147)))) bt149.1 bt152.1).bind fun t154 => (if t154 = true then ((spec_l03Key.f k (wrap64 (t145 + (wrap64 (2 * t147)))) bt149.1 bt152.1).bind fun t155 => (if t155.toList = x0.toList then (some (wrap64 (t145 + (wrap64 (2 * t147))),bt149.1,bt152.1,true)) else (some (0,0,0,false)))) else (some (0,0,0,false)))) else (some (0,0,0,false))) else (some (0,0,0,false)))) else (none))) else (none)) else (none)) else (none)))) else (none))
def spec_l03ToKey.f (k : Nat) (a0 : ByteArray) : Option (Int × Int × Int × Bool) := (spec_l00Cut.f k a0 47).bind fun t139 => (if (t139.length : Int) = 2 then (if 1 < (t139.length : Int) then (if ((rdOf ByteArray.empty t139 1).size : Int) = 13 then (if 6 < ((rdOf ByteArray.empty t139 1).size : Int) then (spec_l03ToKey.j0 k a0 t139 ((bt (rdOf ByteArray.empty t139 1) 6) != 45)) else (none)) else (spec_l03ToKey.j0 k a0 t139 true)) else (none)) else (spec_l03ToKey.j0 k a0 t139 true))
theorem spec_l03ToKey.mono_l : ∀ k,(∀ y0 y1 y2,LeO (spec_l03ToKey.j0 k y0 y1 y2) (spec_l03ToKey.j0 (k + 1) y0 y1 y2))
 | 0 => fun _ _ _ r h => by simp [spec_l03ToKey.j0] at h
 | k + 1 => by
  have ih0 := spec_l03ToKey.mono_l k
  ·intro y0 y1 y2
   unfold spec_l03ToKey.j0
   repeat' first
   | (with_reducible first | exact ih0 .. | exact spec_l00Cut.mono .. | exact spec_l03Fixed.mono .. | exact spec_l03Key.mono .. | exact LeO.refl _ | exact LeO.none _ | refine LeO.ite ?_ ?_ | refine LeO.bind ?_ (fun _ => ?_))
   | exact LeO.none _ | refine LeO.ite ?_ ?_ | refine LeO.bind ?_ (fun _ => ?_)
theorem spec_l03ToKey.mono : ∀ a0 k,LeO (spec_l03ToKey.f k a0) (spec_l03ToKey.f (k + 1) a0) := by
 intro a0 k
 have ih0 := spec_l03ToKey.mono_l k
 unfold spec_l03ToKey.f
 repeat' first
 | (with_reducible first | exact ih0 .. | exact spec_l00Cut.mono .. | exact spec_l03Fixed.mono .. | exact spec_l03Key.mono .. | exact LeO.refl _ | exact LeO.none _ | refine LeO.ite ?_ ?_ | refine LeO.bind ?_ (fun _ => ?_))
 | exact LeO.none _ | refine LeO.ite ?_ ?_ | refine LeO.bind ?_ (fun _ => ?_)
set_option maxHeartbeats 8000000 in
set_option maxRecDepth 100000 in
theorem spec_l03ToKey.calls (k : Nat) (a0 : ByteArray) (r1 : Int) (r2 : Int) (r3 : Int) (r4 : Bool) (w : World) (h : spec_l03ToKey.f k a0 = some (r1,r2,r3,r4)) :
  Calls Tryz.prog 37 #[.string a0] w fun e w' => e = .returned (.tuple #[.int .i64 r1,.int .i64 r2,.int .i64 r3,.bool r4]) ∧ Below w.heap.size w w' := by
 have HB := Aside0.mk (Below.refl w.heap.size w)
 have H : ((spec_l00Cut.f k a0 47).bind fun t139 => (if (t139.length : Int) = 2 then (if 1 < (t139.length : Int) then (if ((rdOf ByteArray.empty t139 1).size : Int) = 13 then (if 6 < ((rdOf ByteArray.empty t139 1).size : Int) then (spec_l03ToKey.j0 k a0 t139 ((bt (rdOf ByteArray.empty t139 1) 6) != 45)) else (none)) else (spec_l03ToKey.j0 k a0 t139 true)) else (none)) else (spec_l03ToKey.j0 k a0 t139 true))) = some (r1,r2,r3,r4) := h
 clear h
 replace H := Option.bind_eq_some_iff.mp H
 obtain ⟨t139,A20,H⟩ := H
 try dsimp only at H
 have A2 := Aside0.mk A20
 clear A20
 have HC3 := Aside0.mk H
 clear H
 go_enter Tryz.func37,Tryz.ntmps37
 go_upto_region 2 with (first | (go_at_call 51; (with_reducible refine (spec_l00Cut.calls k a0 47 t139 _ A2.out).mono ?_); rintro e w4 ⟨v140,rfl,ho0,hb⟩; have n0_ := Aside0.mk (Kd.R_lower ho0 (below_size bA)); have n1_ := Aside0.mk (below_step bA hb); clear HB; have HO141 := n0_; have HB := n1_; clear n0_ n1_; (try clear hb); (try clear hb2); (try clear hk); (try clear hi); (try clear ho0)))
 repeat (go_quiet (first | (go_at_call 51; (with_reducible refine (spec_l00Cut.calls k a0 47 t139 _ A2.out).mono ?_); rintro e w4 ⟨v140,rfl,ho0,hb⟩; have n0_ := Aside0.mk (Kd.R_lower ho0 (below_size bA)); have n1_ := Aside0.mk (below_step bA hb); clear HB; have HO141 := n0_; have HB := n1_; clear n0_ n1_; (try clear hb); (try clear hb2); (try clear hk); (try clear hi); (try clear ho0))); go_upto_region 2 with (first | (go_at_call 51; (with_reducible refine (spec_l00Cut.calls k a0 47 t139 _ A2.out).mono ?_); rintro e w4 ⟨v140,rfl,ho0,hb⟩; have n0_ := Aside0.mk (Kd.R_lower ho0 (below_size bA)); have n1_ := Aside0.mk (below_step bA hb); clear HB; have HO141 := n0_; have HB := n1_; clear n0_ n1_; (try clear hb); (try clear hb2); (try clear hk); (try clear hi); (try clear ho0))))
 (try simp only [Act.put,setIfInBounds_toArray,set_cons_zero,set_cons_succ])
 go_cut [30] (fun v30 wc => ∃ (kq : Nat) (x30_2 : Bool),v30 = .bool x30_2 ∧ Aside0 (spec_l03ToKey.j0 kq a0 t139 x30_2 = some (r1,r2,r3,r4)) ∧ Aside0 (kq ≤ k) ∧ Aside0 (Kd.R Kd.string 9 wc w.heap.size (fun _ => True) v140 t139) ∧ Aside0 (Below w.heap.size w wc))
 case first =>
  have H := HC3.out
  clear HC3
  by_cases c5 : (t139.length : Int) = 2
  ·rw [if_pos c5] at H
   have c5b0 : ((t139.length : Int) == 2) = true := beq_iff_eq.mpr c5
   have c5b1 : ((t139.length : Int) != 2) = false := bne_eq_false_iff_eq.mpr c5
   clear c5
   (first | rw [c5b0] | (simp only [i64_w,i32_w]; rw [c5b0]) | skip)
   by_cases c6 : 1 < (t139.length : Int)
   ·rw [if_pos c6] at H
    have c6b0 : decide (1 < (t139.length : Int)) = true := decide_eq_true c6
    have c6b1 : decide (1 < t139.length) = true := decide_eq_true (by omega)
    clear c6
    by_cases c7 : ((rdOf ByteArray.empty t139 1).size : Int) = 13
    ·rw [if_pos c7] at H
     have c7b0 : (((rdOf ByteArray.empty t139 1).size : Int) == 13) = true := beq_iff_eq.mpr c7
     have c7b1 : (((rdOf ByteArray.empty t139 1).size : Int) != 13) = false := bne_eq_false_iff_eq.mpr c7
     clear c7
     by_cases c8 : 6 < ((rdOf ByteArray.empty t139 1).size : Int)
     ·rw [if_pos c8] at H
      have c8b0 : decide (6 < ((rdOf ByteArray.empty t139 1).size : Int)) = true := decide_eq_true c8
      have c8b1 : decide (6 < (rdOf ByteArray.empty t139 1).size) = true := decide_eq_true (by omega)
      clear c8
      have H' := Aside0.mk H
      clear H
      obtain ⟨Ao10,co10,eo10⟩ := Kd.R_slice HO141.out
      subst eo10
      have p142 : 0 ≤ (1 : Int) := (by omega)
      have q142 : 1 < (t139.length : Int) := od
      obtain ⟨ad142,e142,hx142_0⟩ := Kd.at_string (Kd.R_reads' HO141.out).2.2 1 p142 q142
      cases e142
      (try simp only [show (1 : Int).toNat = 1 from rfl,Nat.reduceMul,Nat.reduceEqDiff,Go.Addr.add,↓reduceIte] at hx142_0)
      have qi142 : (1 < t139.length) = True := eq_true (by omega)
      (try rw [show ((1 : Int)).toNat = 1 from rfl] at hx142_0)
      replace p142 := eq_true p142
      replace q142 := eq_true q142
      have p143 : 0 ≤ (1 : Int) := (by omega)
      have q143 : 1 < (t139.length : Int) := od
      obtain ⟨ad143,e143,hx143_0⟩ := Kd.at_string (Kd.R_reads' HO141.out).2.2 1 p143 q143
      obtain rfl : ad142 = ad143 := (by injection e143)
      (try simp only [show (1 : Int).toNat = 1 from rfl,Nat.reduceMul,Nat.reduceEqDiff,Go.Addr.add,↓reduceIte] at hx143_0)
      have qi143 : (1 < t139.length) = True := eq_true (by omega)
      (try rw [show ((1 : Int)).toNat = 1 from rfl] at hx143_0)
      replace p143 := eq_true p143
      replace q143 := eq_true q143
      have p9 : 0 ≤ (6 : Int) := (by omega)
      have q9 : 6 < (rdOf ByteArray.empty t139 1).size := (by have : (6 : Int) < ((rdOf ByteArray.empty t139 1).size : Int) := od; omega)
      have hx9 : ∀ h : 6 < (rdOf ByteArray.empty t139 1).size,(((rdOf ByteArray.empty t139 1)[6]'h).toNat : Int) = bt (rdOf ByteArray.empty t139 1) 6 := bt_at (rdOf ByteArray.empty t139 1) 6
      clear p9
      have qi9 : (6 < ((rdOf ByteArray.empty t139 1).size : Int)) = True := eq_true (od)
      replace q9 := eq_true q9
      go_wp2
      repeat (go_quiet (fail); try go_wp2)
      go_meet
      case rel => exact ⟨_,(((bt (rdOf ByteArray.empty t139 1) 6) != 45)),(by first | rfl | (simp; done) | (simp [*]; done)),H',⟨by first | omega | exact Nat.le_refl _⟩,⟨rA HO141.out⟩,⟨bA⟩⟩
     ·rw [if_neg c8] at H
      exact absurd H (by simp)
    ·rw [if_neg c7] at H
     have c7b0 : (((rdOf ByteArray.empty t139 1).size : Int) == 13) = false := beq_eq_false_iff_ne.mpr c7
     have c7b1 : (((rdOf ByteArray.empty t139 1).size : Int) != 13) = true := bne_iff_ne.mpr c7
     have H' := Aside0.mk H
     clear H
     obtain ⟨Ao11,co11,eo11⟩ := Kd.R_slice HO141.out
     subst eo11
     have p142 : 0 ≤ (1 : Int) := (by omega)
     have q142 : 1 < (t139.length : Int) := od
     obtain ⟨ad142,e142,hx142_0⟩ := Kd.at_string (Kd.R_reads' HO141.out).2.2 1 p142 q142
     cases e142
     (try simp only [show (1 : Int).toNat = 1 from rfl,Nat.reduceMul,Nat.reduceEqDiff,Go.Addr.add,↓reduceIte] at hx142_0)
     have qi142 : (1 < t139.length) = True := eq_true (by omega)
     (try rw [show ((1 : Int)).toNat = 1 from rfl] at hx142_0)
     replace p142 := eq_true p142
     replace q142 := eq_true q142
     go_wp2
     repeat (go_quiet (fail); try go_wp2)
     go_meet
     case rel => exact ⟨_,(true),(by first | rfl | (simp; done) | (simp [*]; done)),H',⟨by first | omega | exact Nat.le_refl _⟩,⟨rA HO141.out⟩,⟨bA⟩⟩
   ·rw [if_neg c6] at H
    exact absurd H (by simp)
  ·rw [if_neg c5] at H
   have c5b0 : ((t139.length : Int) == 2) = false := beq_eq_false_iff_ne.mpr c5
   have c5b1 : ((t139.length : Int) != 2) = true := bne_iff_ne.mpr c5
   (first | rw [c5b0] | (simp only [i64_w,i32_w]; rw [c5b0]) | skip)
   have H' := Aside0.mk H
   clear H
   obtain ⟨Ao12,co12,eo12⟩ := Kd.R_slice HO141.out
   subst eo12
   go_wp2
   repeat (go_quiet (fail); try go_wp2)
   go_meet
   case rel => exact ⟨_,(true),(by first | rfl | (simp; done) | (simp [*]; done)),H',⟨by first | omega | exact Nat.le_refl _⟩,⟨rA HO141.out⟩,⟨bA⟩⟩
 case rest =>
  clear HC3
  try clear p1
  try clear q1
  try clear hx1
  try clear qi1
  try clear p2
  try clear c3
  try clear c5
  try clear c5b0
  try clear c5b1
  try clear c6
  try clear c6b0
  try clear c6b1
  try clear c7
  try clear c7b0
  try clear c7b1
  try clear c8
  try clear c8b0
  try clear c8b1
  try clear p9
  try clear q9
  try clear hx9
  try clear qi9
  try clear hx142_0
  try clear hx143_0
  try clear p142
  try clear p143
  try clear p9
  try clear q142
  try clear q143
  try clear q9
  obtain ⟨kq,x30_2,rfl,HA,HJ2,HO_6,HB⟩ := hcut
  cases kq with
  | zero => exact absurd HA.out (by simp [spec_l03ToKey.j0])
  | succ kj2 =>
   have H := HA.out
   clear HA
   simp only [spec_l03ToKey.j0] at H
   by_cases c13 : x30_2 = true
   ·subst c13
    rw [if_pos rfl] at H
    simp only [Option.some.injEq,Prod.mk.injEq] at H
    obtain ⟨rfl,rfl,rfl,rfl⟩ := H
    go_wp2
    repeat (go_quiet (fail); try go_wp2)
    refine bodyPost_ret (results_list (rs := [.tmp 2,.tmp 3,.tmp 4,.tmp 5]) rfl (by simp) (.tmp (.tmp (.tmp (.tmp .nil))))) rfl ?_
    exact ⟨by first | rfl | (simp only [i64_w,i32_w] <;> rfl) | (simp [errW_none,errW_some] <;> rfl) | (simp [*,errW_none,errW_some] <;> rfl),bA⟩
   ·replace c13 := Bool.eq_false_iff.mpr c13
    subst c13
    rw [if_neg (show ¬ (false = true) by decide)] at H
    by_cases c14 : 0 < (t139.length : Int)
    ·rw [if_pos c14] at H
     have c14b0 : decide (0 < (t139.length : Int)) = true := decide_eq_true c14
     have c14b1 : decide (0 < t139.length) = true := decide_eq_true (by omega)
     clear c14
     replace H := Option.bind_eq_some_iff.mp H
     obtain ⟨t145,A150,H⟩ := H
     try dsimp only at H
     have A15 := Aside0.mk A150
     clear A150
     replace H := Option.bind_eq_some_iff.mp H
     obtain ⟨t147,A160,H⟩ := H
     try dsimp only at H
     have A16 := Aside0.mk A160
     clear A160
     by_cases c17 : 1 < (t139.length : Int)
     ·rw [if_pos c17] at H
      have c17b0 : decide (1 < (t139.length : Int)) = true := decide_eq_true c17
      have c17b1 : decide (1 < t139.length) = true := decide_eq_true (by omega)
      clear c17
      by_cases c18 : 0 ≤ 6
      ·rw [if_pos c18] at H
       have c18b0 := eq_true c18
       have c18b1 : decide (0 ≤ 6) = true := decide_eq_true c18
       clear c18
       by_cases c19 : 6 ≤ ((rdOf ByteArray.empty t139 1).size : Int)
       ·rw [if_pos c19] at H
        have c19b0 := eq_true c19
        have c19b1 : decide (6 ≤ ((rdOf ByteArray.empty t139 1).size : Int)) = true := decide_eq_true c19
        clear c19
        replace H := Option.bind_eq_some_iff.mp H
        obtain ⟨⟨t149,t150⟩,A200,H⟩ := H
        try dsimp only at H
        have A20 := Aside0.mk A200
        clear A200
        by_cases c21 : 7 ≤ ((rdOf ByteArray.empty t139 1).size : Int)
        ·rw [if_pos c21] at H
         have c21b0 := eq_true c21
         have c21b1 : decide (7 ≤ ((rdOf ByteArray.empty t139 1).size : Int)) = true := decide_eq_true c21
         clear c21
         replace H := Option.bind_eq_some_iff.mp H
         obtain ⟨⟨t152,t153⟩,A220,H⟩ := H
         try dsimp only at H
         have A22 := Aside0.mk A220
         clear A220
         by_cases c23 : t150 = true
         ·subst c23
          rw [if_pos rfl] at H
          by_cases c24 : t153 = true
          ·subst c24
           rw [if_pos rfl] at H
           replace H := Option.bind_eq_some_iff.mp H
           obtain ⟨t154,A250,H⟩ := H
           try dsimp only at H
           have A25 := Aside0.mk A250
           clear A250
           by_cases c26 : t154 = true
           ·subst c26
            rw [if_pos rfl] at H
            replace H := Option.bind_eq_some_iff.mp H
            obtain ⟨t155,A270,H⟩ := H
            try dsimp only at H
            have A27 := Aside0.mk A270
            clear A270
            by_cases c28 : t155.toList = a0.toList
            ·rw [if_pos c28] at H
             have c28b0 : (t155.toList == a0.toList) = true := beq_iff_eq.mpr c28
             have c28b1 : (t155.toList != a0.toList) = false := bne_eq_false_iff_eq.mpr c28
             clear c28
             simp only [Option.some.injEq,Prod.mk.injEq] at H
             obtain ⟨rfl,rfl,rfl,rfl⟩ := H
             obtain ⟨Ao29,co29,eo29⟩ := Kd.R_slice HO_6.out
             subst eo29
             have p144 : 0 ≤ (0 : Int) := (by omega)
             have q144 : 0 < (t139.length : Int) := od
             obtain ⟨ad144,e144,hx144_0⟩ := Kd.at_string (Kd.R_reads' HO_6.out).2.2 0 p144 q144
             cases e144
             have qi144 : (0 < t139.length) = True := eq_true (by omega)
             (try rw [show ((0 : Int)).toNat = 0 from rfl] at hx144_0)
             (try rw [Addr.add_zero'] at hx144_0)
             replace p144 := eq_true p144
             replace q144 := eq_true q144
             go_wp2_with (first | (go_at_call 52; (with_reducible refine (spec_l01Bit.calls ((rdOf ByteArray.empty t139 0).toList == ([116,49] : List UInt8)) t145 _ A15.out).mono ?_); rintro e w' ⟨rfl,⟨nd,rfl⟩⟩; (try first | exact ⟨rfl,_,World.drewN_drewN _ _ _⟩ | exact ⟨rfl,_,Eq.trans (World.drewN_drewN _ _ _) (congrArg (World.drewN _) (Nat.add_assoc _ _ _))⟩); have p146 : 0 ≤ (0 : Int) := (by omega); have q146 : 0 < (t139.length : Int) := od; obtain ⟨ad146,e146,hx146_0⟩ := Kd.at_string (Kd.R_reads' HO_6.out).2.2 0 p146 q146; obtain rfl : ad144 = ad146 := (by injection e146); have qi146 : (0 < t139.length) = True := eq_true (by omega); (try rw [show ((0 : Int)).toNat = 0 from rfl] at hx146_0); (try rw [Addr.add_zero'] at hx146_0); replace p146 := eq_true p146; replace q146 := eq_true q146) | (go_at_call 52; (with_reducible refine (spec_l01Bit.calls ((rdOf ByteArray.empty t139 0).toList == ([116,50] : List UInt8)) t147 _ A16.out).mono ?_); rintro e w' ⟨rfl,⟨nd,rfl⟩⟩; (try first | exact ⟨rfl,_,World.drewN_drewN _ _ _⟩ | exact ⟨rfl,_,Eq.trans (World.drewN_drewN _ _ _) (congrArg (World.drewN _) (Nat.add_assoc _ _ _))⟩); have p148 : 0 ≤ (1 : Int) := (by omega); have q148 : 1 < (t139.length : Int) := od; obtain ⟨ad148,e148,hx148_0⟩ := Kd.at_string (Kd.R_reads' HO_6.out).2.2 1 p148 q148; obtain rfl : ad144 = ad148 := (by injection e148); (try simp only [show (1 : Int).toNat = 1 from rfl,Nat.reduceMul,Nat.reduceEqDiff,Go.Addr.add,↓reduceIte] at hx148_0); have qi148 : (1 < t139.length) = True := eq_true (by omega); (try rw [show ((1 : Int)).toNat = 1 from rfl] at hx148_0); replace p148 := eq_true p148; replace q148 := eq_true q148) | (go_at_call 53; (with_reducible refine (spec_l03Fixed.calls kj2 ((rdOf ByteArray.empty t139 1).extract 0 6) t149 true _ A20.out).mono ?_); rintro e w' ⟨rfl,⟨nd,rfl⟩⟩; (try first | exact ⟨rfl,_,World.drewN_drewN _ _ _⟩ | exact ⟨rfl,_,Eq.trans (World.drewN_drewN _ _ _) (congrArg (World.drewN _) (Nat.add_assoc _ _ _))⟩); have p151 : 0 ≤ (1 : Int) := (by omega); have q151 : 1 < (t139.length : Int) := od; obtain ⟨ad151,e151,hx151_0⟩ := Kd.at_string (Kd.R_reads' HO_6.out).2.2 1 p151 q151; obtain rfl : ad144 = ad151 := (by injection e151); (try simp only [show (1 : Int).toNat = 1 from rfl,Nat.reduceMul,Nat.reduceEqDiff,Go.Addr.add,↓reduceIte] at hx151_0); have qi151 : (1 < t139.length) = True := eq_true (by omega); (try rw [show ((1 : Int)).toNat = 1 from rfl] at hx151_0); replace p151 := eq_true p151; replace q151 := eq_true q151) | (go_at_call 53; (with_reducible refine (spec_l03Fixed.calls kj2 ((rdOf ByteArray.empty t139 1).extract 7 (rdOf ByteArray.empty t139 1).size) t152 true _ A22.out).mono ?_); rintro e w' ⟨rfl,⟨nd,rfl⟩⟩; (try first | exact ⟨rfl,_,World.drewN_drewN _ _ _⟩ | exact ⟨rfl,_,Eq.trans (World.drewN_drewN _ _ _) (congrArg (World.drewN _) (Nat.add_assoc _ _ _))⟩)) | (go_at_call 54; (with_reducible refine (spec_l03KeyOK.calls (wrap64 (t145 + (wrap64 (2 * t147)))) t149 t152 true _ A25.out).mono ?_); rintro e w' ⟨rfl,⟨nd,rfl⟩⟩; (try first | exact ⟨rfl,_,World.drewN_drewN _ _ _⟩ | exact ⟨rfl,_,Eq.trans (World.drewN_drewN _ _ _) (congrArg (World.drewN _) (Nat.add_assoc _ _ _))⟩)) | (go_at_call 55; (with_reducible refine (spec_l03Key.calls kj2 (wrap64 (t145 + (wrap64 (2 * t147)))) t149 t152 t155 _ A27.out).mono ?_); rintro e w30 ⟨rfl,hb⟩; have n0_ := Aside0.mk (Kd.R_below (rA HO_6.out) hb); have n1_ := Aside0.mk (below_step bA hb); clear HO_6 HB; have HO_6 := n0_; have HB := n1_; clear n0_ n1_; (try clear hb); (try clear hb2); (try clear hk); (try clear hi)))
             repeat (go_quiet (first | (go_at_call 52; (with_reducible refine (spec_l01Bit.calls ((rdOf ByteArray.empty t139 0).toList == ([116,49] : List UInt8)) t145 _ A15.out).mono ?_); rintro e w' ⟨rfl,⟨nd,rfl⟩⟩; (try first | exact ⟨rfl,_,World.drewN_drewN _ _ _⟩ | exact ⟨rfl,_,Eq.trans (World.drewN_drewN _ _ _) (congrArg (World.drewN _) (Nat.add_assoc _ _ _))⟩); have p146 : 0 ≤ (0 : Int) := (by omega); have q146 : 0 < (t139.length : Int) := od; obtain ⟨ad146,e146,hx146_0⟩ := Kd.at_string (Kd.R_reads' HO_6.out).2.2 0 p146 q146; obtain rfl : ad144 = ad146 := (by injection e146); have qi146 : (0 < t139.length) = True := eq_true (by omega); (try rw [show ((0 : Int)).toNat = 0 from rfl] at hx146_0); (try rw [Addr.add_zero'] at hx146_0); replace p146 := eq_true p146; replace q146 := eq_true q146) | (go_at_call 52; (with_reducible refine (spec_l01Bit.calls ((rdOf ByteArray.empty t139 0).toList == ([116,50] : List UInt8)) t147 _ A16.out).mono ?_); rintro e w' ⟨rfl,⟨nd,rfl⟩⟩; (try first | exact ⟨rfl,_,World.drewN_drewN _ _ _⟩ | exact ⟨rfl,_,Eq.trans (World.drewN_drewN _ _ _) (congrArg (World.drewN _) (Nat.add_assoc _ _ _))⟩); have p148 : 0 ≤ (1 : Int) := (by omega); have q148 : 1 < (t139.length : Int) := od; obtain ⟨ad148,e148,hx148_0⟩ := Kd.at_string (Kd.R_reads' HO_6.out).2.2 1 p148 q148; obtain rfl : ad144 = ad148 := (by injection e148); (try simp only [show (1 : Int).toNat = 1 from rfl,Nat.reduceMul,Nat.reduceEqDiff,Go.Addr.add,↓reduceIte] at hx148_0); have qi148 : (1 < t139.length) = True := eq_true (by omega); (try rw [show ((1 : Int)).toNat = 1 from rfl] at hx148_0); replace p148 := eq_true p148; replace q148 := eq_true q148) | (go_at_call 53; (with_reducible refine (spec_l03Fixed.calls kj2 ((rdOf ByteArray.empty t139 1).extract 0 6) t149 true _ A20.out).mono ?_); rintro e w' ⟨rfl,⟨nd,rfl⟩⟩; (try first | exact ⟨rfl,_,World.drewN_drewN _ _ _⟩ | exact ⟨rfl,_,Eq.trans (World.drewN_drewN _ _ _) (congrArg (World.drewN _) (Nat.add_assoc _ _ _))⟩); have p151 : 0 ≤ (1 : Int) := (by omega); have q151 : 1 < (t139.length : Int) := od; obtain ⟨ad151,e151,hx151_0⟩ := Kd.at_string (Kd.R_reads' HO_6.out).2.2 1 p151 q151; obtain rfl : ad144 = ad151 := (by injection e151); (try simp only [show (1 : Int).toNat = 1 from rfl,Nat.reduceMul,Nat.reduceEqDiff,Go.Addr.add,↓reduceIte] at hx151_0); have qi151 : (1 < t139.length) = True := eq_true (by omega); (try rw [show ((1 : Int)).toNat = 1 from rfl] at hx151_0); replace p151 := eq_true p151; replace q151 := eq_true q151) | (go_at_call 53; (with_reducible refine (spec_l03Fixed.calls kj2 ((rdOf ByteArray.empty t139 1).extract 7 (rdOf ByteArray.empty t139 1).size) t152 true _ A22.out).mono ?_); rintro e w' ⟨rfl,⟨nd,rfl⟩⟩; (try first | exact ⟨rfl,_,World.drewN_drewN _ _ _⟩ | exact ⟨rfl,_,Eq.trans (World.drewN_drewN _ _ _) (congrArg (World.drewN _) (Nat.add_assoc _ _ _))⟩)) | (go_at_call 54; (with_reducible refine (spec_l03KeyOK.calls (wrap64 (t145 + (wrap64 (2 * t147)))) t149 t152 true _ A25.out).mono ?_); rintro e w' ⟨rfl,⟨nd,rfl⟩⟩; (try first | exact ⟨rfl,_,World.drewN_drewN _ _ _⟩ | exact ⟨rfl,_,Eq.trans (World.drewN_drewN _ _ _) (congrArg (World.drewN _) (Nat.add_assoc _ _ _))⟩)) | (go_at_call 55; (with_reducible refine (spec_l03Key.calls kj2 (wrap64 (t145 + (wrap64 (2 * t147)))) t149 t152 t155 _ A27.out).mono ?_); rintro e w30 ⟨rfl,hb⟩; have n0_ := Aside0.mk (Kd.R_below (rA HO_6.out) hb); have n1_ := Aside0.mk (below_step bA hb); clear HO_6 HB; have HO_6 := n0_; have HB := n1_; clear n0_ n1_; (try clear hb); (try clear hb2); (try clear hk); (try clear hi))); try go_wp2_with (first | (go_at_call 52; (with_reducible refine (spec_l01Bit.calls ((rdOf ByteArray.empty t139 0).toList == ([116,49] : List UInt8)) t145 _ A15.out).mono ?_); rintro e w' ⟨rfl,⟨nd,rfl⟩⟩; (try first | exact ⟨rfl,_,World.drewN_drewN _ _ _⟩ | exact ⟨rfl,_,Eq.trans (World.drewN_drewN _ _ _) (congrArg (World.drewN _) (Nat.add_assoc _ _ _))⟩); have p146 : 0 ≤ (0 : Int) := (by omega); have q146 : 0 < (t139.length : Int) := od; obtain ⟨ad146,e146,hx146_0⟩ := Kd.at_string (Kd.R_reads' HO_6.out).2.2 0 p146 q146; obtain rfl : ad144 = ad146 := (by injection e146); have qi146 : (0 < t139.length) = True := eq_true (by omega); (try rw [show ((0 : Int)).toNat = 0 from rfl] at hx146_0); (try rw [Addr.add_zero'] at hx146_0); replace p146 := eq_true p146; replace q146 := eq_true q146) | (go_at_call 52; (with_reducible refine (spec_l01Bit.calls ((rdOf ByteArray.empty t139 0).toList == ([116,50] : List UInt8)) t147 _ A16.out).mono ?_); rintro e w' ⟨rfl,⟨nd,rfl⟩⟩; (try first | exact ⟨rfl,_,World.drewN_drewN _ _ _⟩ | exact ⟨rfl,_,Eq.trans (World.drewN_drewN _ _ _) (congrArg (World.drewN _) (Nat.add_assoc _ _ _))⟩); have p148 : 0 ≤ (1 : Int) := (by omega); have q148 : 1 < (t139.length : Int) := od; obtain ⟨ad148,e148,hx148_0⟩ := Kd.at_string (Kd.R_reads' HO_6.out).2.2 1 p148 q148; obtain rfl : ad144 = ad148 := (by injection e148); (try simp only [show (1 : Int).toNat = 1 from rfl,Nat.reduceMul,Nat.reduceEqDiff,Go.Addr.add,↓reduceIte] at hx148_0); have qi148 : (1 < t139.length) = True := eq_true (by omega); (try rw [show ((1 : Int)).toNat = 1 from rfl] at hx148_0); replace p148 := eq_true p148; replace q148 := eq_true q148) | (go_at_call 53; (with_reducible refine (spec_l03Fixed.calls kj2 ((rdOf ByteArray.empty t139 1).extract 0 6) t149 true _ A20.out).mono ?_); rintro e w' ⟨rfl,⟨nd,rfl⟩⟩; (try first | exact ⟨rfl,_,World.drewN_drewN _ _ _⟩ | exact ⟨rfl,_,Eq.trans (World.drewN_drewN _ _ _) (congrArg (World.drewN _) (Nat.add_assoc _ _ _))⟩); have p151 : 0 ≤ (1 : Int) := (by omega); have q151 : 1 < (t139.length : Int) := od; obtain ⟨ad151,e151,hx151_0⟩ := Kd.at_string (Kd.R_reads' HO_6.out).2.2 1 p151 q151; obtain rfl : ad144 = ad151 := (by injection e151); (try simp only [show (1 : Int).toNat = 1 from rfl,Nat.reduceMul,Nat.reduceEqDiff,Go.Addr.add,↓reduceIte] at hx151_0); have qi151 : (1 < t139.length) = True := eq_true (by omega); (try rw [show ((1 : Int)).toNat = 1 from rfl] at hx151_0); replace p151 := eq_true p151; replace q151 := eq_true q151) | (go_at_call 53; (with_reducible refine (spec_l03Fixed.calls kj2 ((rdOf ByteArray.empty t139 1).extract 7 (rdOf ByteArray.empty t139 1).size) t152 true _ A22.out).mono ?_); rintro e w' ⟨rfl,⟨nd,rfl⟩⟩; (try first | exact ⟨rfl,_,World.drewN_drewN _ _ _⟩ | exact ⟨rfl,_,Eq.trans (World.drewN_drewN _ _ _) (congrArg (World.drewN _) (Nat.add_assoc _ _ _))⟩)) | (go_at_call 54; (with_reducible refine (spec_l03KeyOK.calls (wrap64 (t145 + (wrap64 (2 * t147)))) t149 t152 true _ A25.out).mono ?_); rintro e w' ⟨rfl,⟨nd,rfl⟩⟩; (try first | exact ⟨rfl,_,World.drewN_drewN _ _ _⟩ | exact ⟨rfl,_,Eq.trans (World.drewN_drewN _ _ _) (congrArg (World.drewN _) (Nat.add_assoc _ _ _))⟩)) | (go_at_call 55; (with_reducible refine (spec_l03Key.calls kj2 (wrap64 (t145 + (wrap64 (2 * t147)))) t149 t152 t155 _ A27.out).mono ?_); rintro e w30 ⟨rfl,hb⟩; have n0_ := Aside0.mk (Kd.R_below (rA HO_6.out) hb); have n1_ := Aside0.mk (below_step bA hb); clear HO_6 HB; have HO_6 := n0_; have HB := n1_; clear n0_ n1_; (try clear hb); (try clear hb2); (try clear hk); (try clear hi))))
             refine bodyPost_ret (results_list (rs := [.tmp 2,.tmp 3,.tmp 4,.tmp 5]) rfl (by simp) (.tmp (.tmp (.tmp (.tmp .nil))))) rfl ?_
             exact ⟨by first | rfl | (simp only [i64_w,i32_w] <;> rfl) | (simp [errW_none,errW_some] <;> rfl) | (simp [*,errW_none,errW_some] <;> rfl),bA⟩
            ·rw [if_neg c28] at H
             have c28b0 : (t155.toList == a0.toList) = false := beq_eq_false_iff_ne.mpr c28
             have c28b1 : (t155.toList != a0.toList) = true := bne_iff_ne.mpr c28
             simp only [Option.some.injEq,Prod.mk.injEq] at H
             obtain ⟨rfl,rfl,rfl,rfl⟩ := H
             obtain ⟨Ao31,co31,eo31⟩ := Kd.R_slice HO_6.out
             subst eo31
             have p144 : 0 ≤ (0 : Int) := (by omega)
             have q144 : 0 < (t139.length : Int) := od
             obtain ⟨ad144,e144,hx144_0⟩ := Kd.at_string (Kd.R_reads' HO_6.out).2.2 0 p144 q144
             cases e144
             have qi144 : (0 < t139.length) = True := eq_true (by omega)
             (try rw [show ((0 : Int)).toNat = 0 from rfl] at hx144_0)
             (try rw [Addr.add_zero'] at hx144_0)
             replace p144 := eq_true p144
             replace q144 := eq_true q144
             go_wp2_with (first | (go_at_call 52; (with_reducible refine (spec_l01Bit.calls ((rdOf ByteArray.empty t139 0).toList == ([116,49] : List UInt8)) t145 _ A15.out).mono ?_); rintro e w' ⟨rfl,⟨nd,rfl⟩⟩; (try first | exact ⟨rfl,_,World.drewN_drewN _ _ _⟩ | exact ⟨rfl,_,Eq.trans (World.drewN_drewN _ _ _) (congrArg (World.drewN _) (Nat.add_assoc _ _ _))⟩); have p146 : 0 ≤ (0 : Int) := (by omega); have q146 : 0 < (t139.length : Int) := od; obtain ⟨ad146,e146,hx146_0⟩ := Kd.at_string (Kd.R_reads' HO_6.out).2.2 0 p146 q146; obtain rfl : ad144 = ad146 := (by injection e146); have qi146 : (0 < t139.length) = True := eq_true (by omega); (try rw [show ((0 : Int)).toNat = 0 from rfl] at hx146_0); (try rw [Addr.add_zero'] at hx146_0); replace p146 := eq_true p146; replace q146 := eq_true q146) | (go_at_call 52; (with_reducible refine (spec_l01Bit.calls ((rdOf ByteArray.empty t139 0).toList == ([116,50] : List UInt8)) t147 _ A16.out).mono ?_); rintro e w' ⟨rfl,⟨nd,rfl⟩⟩; (try first | exact ⟨rfl,_,World.drewN_drewN _ _ _⟩ | exact ⟨rfl,_,Eq.trans (World.drewN_drewN _ _ _) (congrArg (World.drewN _) (Nat.add_assoc _ _ _))⟩); have p148 : 0 ≤ (1 : Int) := (by omega); have q148 : 1 < (t139.length : Int) := od; obtain ⟨ad148,e148,hx148_0⟩ := Kd.at_string (Kd.R_reads' HO_6.out).2.2 1 p148 q148; obtain rfl : ad144 = ad148 := (by injection e148); (try simp only [show (1 : Int).toNat = 1 from rfl,Nat.reduceMul,Nat.reduceEqDiff,Go.Addr.add,↓reduceIte] at hx148_0); have qi148 : (1 < t139.length) = True := eq_true (by omega); (try rw [show ((1 : Int)).toNat = 1 from rfl] at hx148_0); replace p148 := eq_true p148; replace q148 := eq_true q148) | (go_at_call 53; (with_reducible refine (spec_l03Fixed.calls kj2 ((rdOf ByteArray.empty t139 1).extract 0 6) t149 true _ A20.out).mono ?_); rintro e w' ⟨rfl,⟨nd,rfl⟩⟩; (try first | exact ⟨rfl,_,World.drewN_drewN _ _ _⟩ | exact ⟨rfl,_,Eq.trans (World.drewN_drewN _ _ _) (congrArg (World.drewN _) (Nat.add_assoc _ _ _))⟩); have p151 : 0 ≤ (1 : Int) := (by omega); have q151 : 1 < (t139.length : Int) := od; obtain ⟨ad151,e151,hx151_0⟩ := Kd.at_string (Kd.R_reads' HO_6.out).2.2 1 p151 q151; obtain rfl : ad144 = ad151 := (by injection e151); (try simp only [show (1 : Int).toNat = 1 from rfl,Nat.reduceMul,Nat.reduceEqDiff,Go.Addr.add,↓reduceIte] at hx151_0); have qi151 : (1 < t139.length) = True := eq_true (by omega); (try rw [show ((1 : Int)).toNat = 1 from rfl] at hx151_0); replace p151 := eq_true p151; replace q151 := eq_true q151) | (go_at_call 53; (with_reducible refine (spec_l03Fixed.calls kj2 ((rdOf ByteArray.empty t139 1).extract 7 (rdOf ByteArray.empty t139 1).size) t152 true _ A22.out).mono ?_); rintro e w' ⟨rfl,⟨nd,rfl⟩⟩; (try first | exact ⟨rfl,_,World.drewN_drewN _ _ _⟩ | exact ⟨rfl,_,Eq.trans (World.drewN_drewN _ _ _) (congrArg (World.drewN _) (Nat.add_assoc _ _ _))⟩)) | (go_at_call 54; (with_reducible refine (spec_l03KeyOK.calls (wrap64 (t145 + (wrap64 (2 * t147)))) t149 t152 true _ A25.out).mono ?_); rintro e w' ⟨rfl,⟨nd,rfl⟩⟩; (try first | exact ⟨rfl,_,World.drewN_drewN _ _ _⟩ | exact ⟨rfl,_,Eq.trans (World.drewN_drewN _ _ _) (congrArg (World.drewN _) (Nat.add_assoc _ _ _))⟩)) | (go_at_call 55; (with_reducible refine (spec_l03Key.calls kj2 (wrap64 (t145 + (wrap64 (2 * t147)))) t149 t152 t155 _ A27.out).mono ?_); rintro e w32 ⟨rfl,hb⟩; have n0_ := Aside0.mk (Kd.R_below (rA HO_6.out) hb); have n1_ := Aside0.mk (below_step bA hb); clear HO_6 HB; have HO_6 := n0_; have HB := n1_; clear n0_ n1_; (try clear hb); (try clear hb2); (try clear hk); (try clear hi)))
             repeat (go_quiet (first | (go_at_call 52; (with_reducible refine (spec_l01Bit.calls ((rdOf ByteArray.empty t139 0).toList == ([116,49] : List UInt8)) t145 _ A15.out).mono ?_); rintro e w' ⟨rfl,⟨nd,rfl⟩⟩; (try first | exact ⟨rfl,_,World.drewN_drewN _ _ _⟩ | exact ⟨rfl,_,Eq.trans (World.drewN_drewN _ _ _) (congrArg (World.drewN _) (Nat.add_assoc _ _ _))⟩); have p146 : 0 ≤ (0 : Int) := (by omega); have q146 : 0 < (t139.length : Int) := od; obtain ⟨ad146,e146,hx146_0⟩ := Kd.at_string (Kd.R_reads' HO_6.out).2.2 0 p146 q146; obtain rfl : ad144 = ad146 := (by injection e146); have qi146 : (0 < t139.length) = True := eq_true (by omega); (try rw [show ((0 : Int)).toNat = 0 from rfl] at hx146_0); (try rw [Addr.add_zero'] at hx146_0); replace p146 := eq_true p146; replace q146 := eq_true q146) | (go_at_call 52; (with_reducible refine (spec_l01Bit.calls ((rdOf ByteArray.empty t139 0).toList == ([116,50] : List UInt8)) t147 _ A16.out).mono ?_); rintro e w' ⟨rfl,⟨nd,rfl⟩⟩; (try first | exact ⟨rfl,_,World.drewN_drewN _ _ _⟩ | exact ⟨rfl,_,Eq.trans (World.drewN_drewN _ _ _) (congrArg (World.drewN _) (Nat.add_assoc _ _ _))⟩); have p148 : 0 ≤ (1 : Int) := (by omega); have q148 : 1 < (t139.length : Int) := od; obtain ⟨ad148,e148,hx148_0⟩ := Kd.at_string (Kd.R_reads' HO_6.out).2.2 1 p148 q148; obtain rfl : ad144 = ad148 := (by injection e148); (try simp only [show (1 : Int).toNat = 1 from rfl,Nat.reduceMul,Nat.reduceEqDiff,Go.Addr.add,↓reduceIte] at hx148_0); have qi148 : (1 < t139.length) = True := eq_true (by omega); (try rw [show ((1 : Int)).toNat = 1 from rfl] at hx148_0); replace p148 := eq_true p148; replace q148 := eq_true q148) | (go_at_call 53; (with_reducible refine (spec_l03Fixed.calls kj2 ((rdOf ByteArray.empty t139 1).extract 0 6) t149 true _ A20.out).mono ?_); rintro e w' ⟨rfl,⟨nd,rfl⟩⟩; (try first | exact ⟨rfl,_,World.drewN_drewN _ _ _⟩ | exact ⟨rfl,_,Eq.trans (World.drewN_drewN _ _ _) (congrArg (World.drewN _) (Nat.add_assoc _ _ _))⟩); have p151 : 0 ≤ (1 : Int) := (by omega); have q151 : 1 < (t139.length : Int) := od; obtain ⟨ad151,e151,hx151_0⟩ := Kd.at_string (Kd.R_reads' HO_6.out).2.2 1 p151 q151; obtain rfl : ad144 = ad151 := (by injection e151); (try simp only [show (1 : Int).toNat = 1 from rfl,Nat.reduceMul,Nat.reduceEqDiff,Go.Addr.add,↓reduceIte] at hx151_0); have qi151 : (1 < t139.length) = True := eq_true (by omega); (try rw [show ((1 : Int)).toNat = 1 from rfl] at hx151_0); replace p151 := eq_true p151; replace q151 := eq_true q151) | (go_at_call 53; (with_reducible refine (spec_l03Fixed.calls kj2 ((rdOf ByteArray.empty t139 1).extract 7 (rdOf ByteArray.empty t139 1).size) t152 true _ A22.out).mono ?_); rintro e w' ⟨rfl,⟨nd,rfl⟩⟩; (try first | exact ⟨rfl,_,World.drewN_drewN _ _ _⟩ | exact ⟨rfl,_,Eq.trans (World.drewN_drewN _ _ _) (congrArg (World.drewN _) (Nat.add_assoc _ _ _))⟩)) | (go_at_call 54; (with_reducible refine (spec_l03KeyOK.calls (wrap64 (t145 + (wrap64 (2 * t147)))) t149 t152 true _ A25.out).mono ?_); rintro e w' ⟨rfl,⟨nd,rfl⟩⟩; (try first | exact ⟨rfl,_,World.drewN_drewN _ _ _⟩ | exact ⟨rfl,_,Eq.trans (World.drewN_drewN _ _ _) (congrArg (World.drewN _) (Nat.add_assoc _ _ _))⟩)) | (go_at_call 55; (with_reducible refine (spec_l03Key.calls kj2 (wrap64 (t145 + (wrap64 (2 * t147)))) t149 t152 t155 _ A27.out).mono ?_); rintro e w32 ⟨rfl,hb⟩; have n0_ := Aside0.mk (Kd.R_below (rA HO_6.out) hb); have n1_ := Aside0.mk (below_step bA hb); clear HO_6 HB; have HO_6 := n0_; have HB := n1_; clear n0_ n1_; (try clear hb); (try clear hb2); (try clear hk); (try clear hi))); try go_wp2_with (first | (go_at_call 52; (with_reducible refine (spec_l01Bit.calls ((rdOf ByteArray.empty t139 0).toList == ([116,49] : List UInt8)) t145 _ A15.out).mono ?_); rintro e w' ⟨rfl,⟨nd,rfl⟩⟩; (try first | exact ⟨rfl,_,World.drewN_drewN _ _ _⟩ | exact ⟨rfl,_,Eq.trans (World.drewN_drewN _ _ _) (congrArg (World.drewN _) (Nat.add_assoc _ _ _))⟩); have p146 : 0 ≤ (0 : Int) := (by omega); have q146 : 0 < (t139.length : Int) := od; obtain ⟨ad146,e146,hx146_0⟩ := Kd.at_string (Kd.R_reads' HO_6.out).2.2 0 p146 q146; obtain rfl : ad144 = ad146 := (by injection e146); have qi146 : (0 < t139.length) = True := eq_true (by omega); (try rw [show ((0 : Int)).toNat = 0 from rfl] at hx146_0); (try rw [Addr.add_zero'] at hx146_0); replace p146 := eq_true p146; replace q146 := eq_true q146) | (go_at_call 52; (with_reducible refine (spec_l01Bit.calls ((rdOf ByteArray.empty t139 0).toList == ([116,50] : List UInt8)) t147 _ A16.out).mono ?_); rintro e w' ⟨rfl,⟨nd,rfl⟩⟩; (try first | exact ⟨rfl,_,World.drewN_drewN _ _ _⟩ | exact ⟨rfl,_,Eq.trans (World.drewN_drewN _ _ _) (congrArg (World.drewN _) (Nat.add_assoc _ _ _))⟩); have p148 : 0 ≤ (1 : Int) := (by omega); have q148 : 1 < (t139.length : Int) := od; obtain ⟨ad148,e148,hx148_0⟩ := Kd.at_string (Kd.R_reads' HO_6.out).2.2 1 p148 q148; obtain rfl : ad144 = ad148 := (by injection e148); (try simp only [show (1 : Int).toNat = 1 from rfl,Nat.reduceMul,Nat.reduceEqDiff,Go.Addr.add,↓reduceIte] at hx148_0); have qi148 : (1 < t139.length) = True := eq_true (by omega); (try rw [show ((1 : Int)).toNat = 1 from rfl] at hx148_0); replace p148 := eq_true p148; replace q148 := eq_true q148) | (go_at_call 53; (with_reducible refine (spec_l03Fixed.calls kj2 ((rdOf ByteArray.empty t139 1).extract 0 6) t149 true _ A20.out).mono ?_); rintro e w' ⟨rfl,⟨nd,rfl⟩⟩; (try first | exact ⟨rfl,_,World.drewN_drewN _ _ _⟩ | exact ⟨rfl,_,Eq.trans (World.drewN_drewN _ _ _) (congrArg (World.drewN _) (Nat.add_assoc _ _ _))⟩); have p151 : 0 ≤ (1 : Int) := (by omega); have q151 : 1 < (t139.length : Int) := od; obtain ⟨ad151,e151,hx151_0⟩ := Kd.at_string (Kd.R_reads' HO_6.out).2.2 1 p151 q151; obtain rfl : ad144 = ad151 := (by injection e151); (try simp only [show (1 : Int).toNat = 1 from rfl,Nat.reduceMul,Nat.reduceEqDiff,Go.Addr.add,↓reduceIte] at hx151_0); have qi151 : (1 < t139.length) = True := eq_true (by omega); (try rw [show ((1 : Int)).toNat = 1 from rfl] at hx151_0); replace p151 := eq_true p151; replace q151 := eq_true q151) | (go_at_call 53; (with_reducible refine (spec_l03Fixed.calls kj2 ((rdOf ByteArray.empty t139 1).extract 7 (rdOf ByteArray.empty t139 1).size) t152 true _ A22.out).mono ?_); rintro e w' ⟨rfl,⟨nd,rfl⟩⟩; (try first | exact ⟨rfl,_,World.drewN_drewN _ _ _⟩ | exact ⟨rfl,_,Eq.trans (World.drewN_drewN _ _ _) (congrArg (World.drewN _) (Nat.add_assoc _ _ _))⟩)) | (go_at_call 54; (with_reducible refine (spec_l03KeyOK.calls (wrap64 (t145 + (wrap64 (2 * t147)))) t149 t152 true _ A25.out).mono ?_); rintro e w' ⟨rfl,⟨nd,rfl⟩⟩; (try first | exact ⟨rfl,_,World.drewN_drewN _ _ _⟩ | exact ⟨rfl,_,Eq.trans (World.drewN_drewN _ _ _) (congrArg (World.drewN _) (Nat.add_assoc _ _ _))⟩)) | (go_at_call 55; (with_reducible refine (spec_l03Key.calls kj2 (wrap64 (t145 + (wrap64 (2 * t147)))) t149 t152 t155 _ A27.out).mono ?_); rintro e w32 ⟨rfl,hb⟩; have n0_ := Aside0.mk (Kd.R_below (rA HO_6.out) hb); have n1_ := Aside0.mk (below_step bA hb); clear HO_6 HB; have HO_6 := n0_; have HB := n1_; clear n0_ n1_; (try clear hb); (try clear hb2); (try clear hk); (try clear hi))))
             refine bodyPost_ret (results_list (rs := [.tmp 2,.tmp 3,.tmp 4,.tmp 5]) rfl (by simp) (.tmp (.tmp (.tmp (.tmp .nil))))) rfl ?_
             exact ⟨by first | rfl | (simp only [i64_w,i32_w] <;> rfl) | (simp [errW_none,errW_some] <;> rfl) | (simp [*,errW_none,errW_some] <;> rfl),bA⟩
           ·replace c26 := Bool.eq_false_iff.mpr c26
            subst c26
            rw [if_neg (show ¬ (false = true) by decide)] at H
            simp only [Option.some.injEq,Prod.mk.injEq] at H
            obtain ⟨rfl,rfl,rfl,rfl⟩ := H
            obtain ⟨Ao33,co33,eo33⟩ := Kd.R_slice HO_6.out
            subst eo33
            have p144 : 0 ≤ (0 : Int) := (by omega)
            have q144 : 0 < (t139.length : Int) := od
            obtain ⟨ad144,e144,hx144_0⟩ := Kd.at_string (Kd.R_reads' HO_6.out).2.2 0 p144 q144
            cases e144
            have qi144 : (0 < t139.length) = True := eq_true (by omega)
            (try rw [show ((0 : Int)).toNat = 0 from rfl] at hx144_0)
            (try rw [Addr.add_zero'] at hx144_0)
            replace p144 := eq_true p144
            replace q144 := eq_true q144
            go_wp2_with (first | (go_at_call 52; (with_reducible refine (spec_l01Bit.calls ((rdOf ByteArray.empty t139 0).toList == ([116,49] : List UInt8)) t145 _ A15.out).mono ?_); rintro e w' ⟨rfl,⟨nd,rfl⟩⟩; (try first | exact ⟨rfl,_,World.drewN_drewN _ _ _⟩ | exact ⟨rfl,_,Eq.trans (World.drewN_drewN _ _ _) (congrArg (World.drewN _) (Nat.add_assoc _ _ _))⟩); have p146 : 0 ≤ (0 : Int) := (by omega); have q146 : 0 < (t139.length : Int) := od; obtain ⟨ad146,e146,hx146_0⟩ := Kd.at_string (Kd.R_reads' HO_6.out).2.2 0 p146 q146; obtain rfl : ad144 = ad146 := (by injection e146); have qi146 : (0 < t139.length) = True := eq_true (by omega); (try rw [show ((0 : Int)).toNat = 0 from rfl] at hx146_0); (try rw [Addr.add_zero'] at hx146_0); replace p146 := eq_true p146; replace q146 := eq_true q146) | (go_at_call 52; (with_reducible refine (spec_l01Bit.calls ((rdOf ByteArray.empty t139 0).toList == ([116,50] : List UInt8)) t147 _ A16.out).mono ?_); rintro e w' ⟨rfl,⟨nd,rfl⟩⟩; (try first | exact ⟨rfl,_,World.drewN_drewN _ _ _⟩ | exact ⟨rfl,_,Eq.trans (World.drewN_drewN _ _ _) (congrArg (World.drewN _) (Nat.add_assoc _ _ _))⟩); have p148 : 0 ≤ (1 : Int) := (by omega); have q148 : 1 < (t139.length : Int) := od; obtain ⟨ad148,e148,hx148_0⟩ := Kd.at_string (Kd.R_reads' HO_6.out).2.2 1 p148 q148; obtain rfl : ad144 = ad148 := (by injection e148); (try simp only [show (1 : Int).toNat = 1 from rfl,Nat.reduceMul,Nat.reduceEqDiff,Go.Addr.add,↓reduceIte] at hx148_0); have qi148 : (1 < t139.length) = True := eq_true (by omega); (try rw [show ((1 : Int)).toNat = 1 from rfl] at hx148_0); replace p148 := eq_true p148; replace q148 := eq_true q148) | (go_at_call 53; (with_reducible refine (spec_l03Fixed.calls kj2 ((rdOf ByteArray.empty t139 1).extract 0 6) t149 true _ A20.out).mono ?_); rintro e w' ⟨rfl,⟨nd,rfl⟩⟩; (try first | exact ⟨rfl,_,World.drewN_drewN _ _ _⟩ | exact ⟨rfl,_,Eq.trans (World.drewN_drewN _ _ _) (congrArg (World.drewN _) (Nat.add_assoc _ _ _))⟩); have p151 : 0 ≤ (1 : Int) := (by omega); have q151 : 1 < (t139.length : Int) := od; obtain ⟨ad151,e151,hx151_0⟩ := Kd.at_string (Kd.R_reads' HO_6.out).2.2 1 p151 q151; obtain rfl : ad144 = ad151 := (by injection e151); (try simp only [show (1 : Int).toNat = 1 from rfl,Nat.reduceMul,Nat.reduceEqDiff,Go.Addr.add,↓reduceIte] at hx151_0); have qi151 : (1 < t139.length) = True := eq_true (by omega); (try rw [show ((1 : Int)).toNat = 1 from rfl] at hx151_0); replace p151 := eq_true p151; replace q151 := eq_true q151) | (go_at_call 53; (with_reducible refine (spec_l03Fixed.calls kj2 ((rdOf ByteArray.empty t139 1).extract 7 (rdOf ByteArray.empty t139 1).size) t152 true _ A22.out).mono ?_); rintro e w' ⟨rfl,⟨nd,rfl⟩⟩; (try first | exact ⟨rfl,_,World.drewN_drewN _ _ _⟩ | exact ⟨rfl,_,Eq.trans (World.drewN_drewN _ _ _) (congrArg (World.drewN _) (Nat.add_assoc _ _ _))⟩)) | (go_at_call 54; (with_reducible refine (spec_l03KeyOK.calls (wrap64 (t145 + (wrap64 (2 * t147)))) t149 t152 false _ A25.out).mono ?_); rintro e w' ⟨rfl,⟨nd,rfl⟩⟩; (try first | exact ⟨rfl,_,World.drewN_drewN _ _ _⟩ | exact ⟨rfl,_,Eq.trans (World.drewN_drewN _ _ _) (congrArg (World.drewN _) (Nat.add_assoc _ _ _))⟩)))
            repeat (go_quiet (first | (go_at_call 52; (with_reducible refine (spec_l01Bit.calls ((rdOf ByteArray.empty t139 0).toList == ([116,49] : List UInt8)) t145 _ A15.out).mono ?_); rintro e w' ⟨rfl,⟨nd,rfl⟩⟩; (try first | exact ⟨rfl,_,World.drewN_drewN _ _ _⟩ | exact ⟨rfl,_,Eq.trans (World.drewN_drewN _ _ _) (congrArg (World.drewN _) (Nat.add_assoc _ _ _))⟩); have p146 : 0 ≤ (0 : Int) := (by omega); have q146 : 0 < (t139.length : Int) := od; obtain ⟨ad146,e146,hx146_0⟩ := Kd.at_string (Kd.R_reads' HO_6.out).2.2 0 p146 q146; obtain rfl : ad144 = ad146 := (by injection e146); have qi146 : (0 < t139.length) = True := eq_true (by omega); (try rw [show ((0 : Int)).toNat = 0 from rfl] at hx146_0); (try rw [Addr.add_zero'] at hx146_0); replace p146 := eq_true p146; replace q146 := eq_true q146) | (go_at_call 52; (with_reducible refine (spec_l01Bit.calls ((rdOf ByteArray.empty t139 0).toList == ([116,50] : List UInt8)) t147 _ A16.out).mono ?_); rintro e w' ⟨rfl,⟨nd,rfl⟩⟩; (try first | exact ⟨rfl,_,World.drewN_drewN _ _ _⟩ | exact ⟨rfl,_,Eq.trans (World.drewN_drewN _ _ _) (congrArg (World.drewN _) (Nat.add_assoc _ _ _))⟩); have p148 : 0 ≤ (1 : Int) := (by omega); have q148 : 1 < (t139.length : Int) := od; obtain ⟨ad148,e148,hx148_0⟩ := Kd.at_string (Kd.R_reads' HO_6.out).2.2 1 p148 q148; obtain rfl : ad144 = ad148 := (by injection e148); (try simp only [show (1 : Int).toNat = 1 from rfl,Nat.reduceMul,Nat.reduceEqDiff,Go.Addr.add,↓reduceIte] at hx148_0); have qi148 : (1 < t139.length) = True := eq_true (by omega); (try rw [show ((1 : Int)).toNat = 1 from rfl] at hx148_0); replace p148 := eq_true p148; replace q148 := eq_true q148) | (go_at_call 53; (with_reducible refine (spec_l03Fixed.calls kj2 ((rdOf ByteArray.empty t139 1).extract 0 6) t149 true _ A20.out).mono ?_); rintro e w' ⟨rfl,⟨nd,rfl⟩⟩; (try first | exact ⟨rfl,_,World.drewN_drewN _ _ _⟩ | exact ⟨rfl,_,Eq.trans (World.drewN_drewN _ _ _) (congrArg (World.drewN _) (Nat.add_assoc _ _ _))⟩); have p151 : 0 ≤ (1 : Int) := (by omega); have q151 : 1 < (t139.length : Int) := od; obtain ⟨ad151,e151,hx151_0⟩ := Kd.at_string (Kd.R_reads' HO_6.out).2.2 1 p151 q151; obtain rfl : ad144 = ad151 := (by injection e151); (try simp only [show (1 : Int).toNat = 1 from rfl,Nat.reduceMul,Nat.reduceEqDiff,Go.Addr.add,↓reduceIte] at hx151_0); have qi151 : (1 < t139.length) = True := eq_true (by omega); (try rw [show ((1 : Int)).toNat = 1 from rfl] at hx151_0); replace p151 := eq_true p151; replace q151 := eq_true q151) | (go_at_call 53; (with_reducible refine (spec_l03Fixed.calls kj2 ((rdOf ByteArray.empty t139 1).extract 7 (rdOf ByteArray.empty t139 1).size) t152 true _ A22.out).mono ?_); rintro e w' ⟨rfl,⟨nd,rfl⟩⟩; (try first | exact ⟨rfl,_,World.drewN_drewN _ _ _⟩ | exact ⟨rfl,_,Eq.trans (World.drewN_drewN _ _ _) (congrArg (World.drewN _) (Nat.add_assoc _ _ _))⟩)) | (go_at_call 54; (with_reducible refine (spec_l03KeyOK.calls (wrap64 (t145 + (wrap64 (2 * t147)))) t149 t152 false _ A25.out).mono ?_); rintro e w' ⟨rfl,⟨nd,rfl⟩⟩; (try first | exact ⟨rfl,_,World.drewN_drewN _ _ _⟩ | exact ⟨rfl,_,Eq.trans (World.drewN_drewN _ _ _) (congrArg (World.drewN _) (Nat.add_assoc _ _ _))⟩))); try go_wp2_with (first | (go_at_call 52; (with_reducible refine (spec_l01Bit.calls ((rdOf ByteArray.empty t139 0).toList == ([116,49] : List UInt8)) t145 _ A15.out).mono ?_); rintro e w' ⟨rfl,⟨nd,rfl⟩⟩; (try first | exact ⟨rfl,_,World.drewN_drewN _ _ _⟩ | exact ⟨rfl,_,Eq.trans (World.drewN_drewN _ _ _) (congrArg (World.drewN _) (Nat.add_assoc _ _ _))⟩); have p146 : 0 ≤ (0 : Int) := (by omega); have q146 : 0 < (t139.length : Int) := od; obtain ⟨ad146,e146,hx146_0⟩ := Kd.at_string (Kd.R_reads' HO_6.out).2.2 0 p146 q146; obtain rfl : ad144 = ad146 := (by injection e146); have qi146 : (0 < t139.length) = True := eq_true (by omega); (try rw [show ((0 : Int)).toNat = 0 from rfl] at hx146_0); (try rw [Addr.add_zero'] at hx146_0); replace p146 := eq_true p146; replace q146 := eq_true q146) | (go_at_call 52; (with_reducible refine (spec_l01Bit.calls ((rdOf ByteArray.empty t139 0).toList == ([116,50] : List UInt8)) t147 _ A16.out).mono ?_); rintro e w' ⟨rfl,⟨nd,rfl⟩⟩; (try first | exact ⟨rfl,_,World.drewN_drewN _ _ _⟩ | exact ⟨rfl,_,Eq.trans (World.drewN_drewN _ _ _) (congrArg (World.drewN _) (Nat.add_assoc _ _ _))⟩); have p148 : 0 ≤ (1 : Int) := (by omega); have q148 : 1 < (t139.length : Int) := od; obtain ⟨ad148,e148,hx148_0⟩ := Kd.at_string (Kd.R_reads' HO_6.out).2.2 1 p148 q148; obtain rfl : ad144 = ad148 := (by injection e148); (try simp only [show (1 : Int).toNat = 1 from rfl,Nat.reduceMul,Nat.reduceEqDiff,Go.Addr.add,↓reduceIte] at hx148_0); have qi148 : (1 < t139.length) = True := eq_true (by omega); (try rw [show ((1 : Int)).toNat = 1 from rfl] at hx148_0); replace p148 := eq_true p148; replace q148 := eq_true q148) | (go_at_call 53; (with_reducible refine (spec_l03Fixed.calls kj2 ((rdOf ByteArray.empty t139 1).extract 0 6) t149 true _ A20.out).mono ?_); rintro e w' ⟨rfl,⟨nd,rfl⟩⟩; (try first | exact ⟨rfl,_,World.drewN_drewN _ _ _⟩ | exact ⟨rfl,_,Eq.trans (World.drewN_drewN _ _ _) (congrArg (World.drewN _) (Nat.add_assoc _ _ _))⟩); have p151 : 0 ≤ (1 : Int) := (by omega); have q151 : 1 < (t139.length : Int) := od; obtain ⟨ad151,e151,hx151_0⟩ := Kd.at_string (Kd.R_reads' HO_6.out).2.2 1 p151 q151; obtain rfl : ad144 = ad151 := (by injection e151); (try simp only [show (1 : Int).toNat = 1 from rfl,Nat.reduceMul,Nat.reduceEqDiff,Go.Addr.add,↓reduceIte] at hx151_0); have qi151 : (1 < t139.length) = True := eq_true (by omega); (try rw [show ((1 : Int)).toNat = 1 from rfl] at hx151_0); replace p151 := eq_true p151; replace q151 := eq_true q151) | (go_at_call 53; (with_reducible refine (spec_l03Fixed.calls kj2 ((rdOf ByteArray.empty t139 1).extract 7 (rdOf ByteArray.empty t139 1).size) t152 true _ A22.out).mono ?_); rintro e w' ⟨rfl,⟨nd,rfl⟩⟩; (try first | exact ⟨rfl,_,World.drewN_drewN _ _ _⟩ | exact ⟨rfl,_,Eq.trans (World.drewN_drewN _ _ _) (congrArg (World.drewN _) (Nat.add_assoc _ _ _))⟩)) | (go_at_call 54; (with_reducible refine (spec_l03KeyOK.calls (wrap64 (t145 + (wrap64 (2 * t147)))) t149 t152 false _ A25.out).mono ?_); rintro e w' ⟨rfl,⟨nd,rfl⟩⟩; (try first | exact ⟨rfl,_,World.drewN_drewN _ _ _⟩ | exact ⟨rfl,_,Eq.trans (World.drewN_drewN _ _ _) (congrArg (World.drewN _) (Nat.add_assoc _ _ _))⟩))))
            refine bodyPost_ret (results_list (rs := [.tmp 2,.tmp 3,.tmp 4,.tmp 5]) rfl (by simp) (.tmp (.tmp (.tmp (.tmp .nil))))) rfl ?_
            exact ⟨by first | rfl | (simp only [i64_w,i32_w] <;> rfl) | (simp [errW_none,errW_some] <;> rfl) | (simp [*,errW_none,errW_some] <;> rfl),bA⟩
          ·replace c24 := Bool.eq_false_iff.mpr c24
           subst c24
           rw [if_neg (show ¬ (false = true) by decide)] at H
           simp only [Option.some.injEq,Prod.mk.injEq] at H
           obtain ⟨rfl,rfl,rfl,rfl⟩ := H
           obtain ⟨Ao34,co34,eo34⟩ := Kd.R_slice HO_6.out
           subst eo34
           have p144 : 0 ≤ (0 : Int) := (by omega)
           have q144 : 0 < (t139.length : Int) := od
           obtain ⟨ad144,e144,hx144_0⟩ := Kd.at_string (Kd.R_reads' HO_6.out).2.2 0 p144 q144
           cases e144
           have qi144 : (0 < t139.length) = True := eq_true (by omega)
           (try rw [show ((0 : Int)).toNat = 0 from rfl] at hx144_0)
           (try rw [Addr.add_zero'] at hx144_0)
           replace p144 := eq_true p144
           replace q144 := eq_true q144
           go_wp2_with (first | (go_at_call 52; (with_reducible refine (spec_l01Bit.calls ((rdOf ByteArray.empty t139 0).toList == ([116,49] : List UInt8)) t145 _ A15.out).mono ?_); rintro e w' ⟨rfl,⟨nd,rfl⟩⟩; (try first | exact ⟨rfl,_,World.drewN_drewN _ _ _⟩ | exact ⟨rfl,_,Eq.trans (World.drewN_drewN _ _ _) (congrArg (World.drewN _) (Nat.add_assoc _ _ _))⟩); have p146 : 0 ≤ (0 : Int) := (by omega); have q146 : 0 < (t139.length : Int) := od; obtain ⟨ad146,e146,hx146_0⟩ := Kd.at_string (Kd.R_reads' HO_6.out).2.2 0 p146 q146; obtain rfl : ad144 = ad146 := (by injection e146); have qi146 : (0 < t139.length) = True := eq_true (by omega); (try rw [show ((0 : Int)).toNat = 0 from rfl] at hx146_0); (try rw [Addr.add_zero'] at hx146_0); replace p146 := eq_true p146; replace q146 := eq_true q146) | (go_at_call 52; (with_reducible refine (spec_l01Bit.calls ((rdOf ByteArray.empty t139 0).toList == ([116,50] : List UInt8)) t147 _ A16.out).mono ?_); rintro e w' ⟨rfl,⟨nd,rfl⟩⟩; (try first | exact ⟨rfl,_,World.drewN_drewN _ _ _⟩ | exact ⟨rfl,_,Eq.trans (World.drewN_drewN _ _ _) (congrArg (World.drewN _) (Nat.add_assoc _ _ _))⟩); have p148 : 0 ≤ (1 : Int) := (by omega); have q148 : 1 < (t139.length : Int) := od; obtain ⟨ad148,e148,hx148_0⟩ := Kd.at_string (Kd.R_reads' HO_6.out).2.2 1 p148 q148; obtain rfl : ad144 = ad148 := (by injection e148); (try simp only [show (1 : Int).toNat = 1 from rfl,Nat.reduceMul,Nat.reduceEqDiff,Go.Addr.add,↓reduceIte] at hx148_0); have qi148 : (1 < t139.length) = True := eq_true (by omega); (try rw [show ((1 : Int)).toNat = 1 from rfl] at hx148_0); replace p148 := eq_true p148; replace q148 := eq_true q148) | (go_at_call 53; (with_reducible refine (spec_l03Fixed.calls kj2 ((rdOf ByteArray.empty t139 1).extract 0 6) t149 true _ A20.out).mono ?_); rintro e w' ⟨rfl,⟨nd,rfl⟩⟩; (try first | exact ⟨rfl,_,World.drewN_drewN _ _ _⟩ | exact ⟨rfl,_,Eq.trans (World.drewN_drewN _ _ _) (congrArg (World.drewN _) (Nat.add_assoc _ _ _))⟩); have p151 : 0 ≤ (1 : Int) := (by omega); have q151 : 1 < (t139.length : Int) := od; obtain ⟨ad151,e151,hx151_0⟩ := Kd.at_string (Kd.R_reads' HO_6.out).2.2 1 p151 q151; obtain rfl : ad144 = ad151 := (by injection e151); (try simp only [show (1 : Int).toNat = 1 from rfl,Nat.reduceMul,Nat.reduceEqDiff,Go.Addr.add,↓reduceIte] at hx151_0); have qi151 : (1 < t139.length) = True := eq_true (by omega); (try rw [show ((1 : Int)).toNat = 1 from rfl] at hx151_0); replace p151 := eq_true p151; replace q151 := eq_true q151) | (go_at_call 53; (with_reducible refine (spec_l03Fixed.calls kj2 ((rdOf ByteArray.empty t139 1).extract 7 (rdOf ByteArray.empty t139 1).size) t152 false _ A22.out).mono ?_); rintro e w' ⟨rfl,⟨nd,rfl⟩⟩; (try first | exact ⟨rfl,_,World.drewN_drewN _ _ _⟩ | exact ⟨rfl,_,Eq.trans (World.drewN_drewN _ _ _) (congrArg (World.drewN _) (Nat.add_assoc _ _ _))⟩)))
           repeat (go_quiet (first | (go_at_call 52; (with_reducible refine (spec_l01Bit.calls ((rdOf ByteArray.empty t139 0).toList == ([116,49] : List UInt8)) t145 _ A15.out).mono ?_); rintro e w' ⟨rfl,⟨nd,rfl⟩⟩; (try first | exact ⟨rfl,_,World.drewN_drewN _ _ _⟩ | exact ⟨rfl,_,Eq.trans (World.drewN_drewN _ _ _) (congrArg (World.drewN _) (Nat.add_assoc _ _ _))⟩); have p146 : 0 ≤ (0 : Int) := (by omega); have q146 : 0 < (t139.length : Int) := od; obtain ⟨ad146,e146,hx146_0⟩ := Kd.at_string (Kd.R_reads' HO_6.out).2.2 0 p146 q146; obtain rfl : ad144 = ad146 := (by injection e146); have qi146 : (0 < t139.length) = True := eq_true (by omega); (try rw [show ((0 : Int)).toNat = 0 from rfl] at hx146_0); (try rw [Addr.add_zero'] at hx146_0); replace p146 := eq_true p146; replace q146 := eq_true q146) | (go_at_call 52; (with_reducible refine (spec_l01Bit.calls ((rdOf ByteArray.empty t139 0).toList == ([116,50] : List UInt8)) t147 _ A16.out).mono ?_); rintro e w' ⟨rfl,⟨nd,rfl⟩⟩; (try first | exact ⟨rfl,_,World.drewN_drewN _ _ _⟩ | exact ⟨rfl,_,Eq.trans (World.drewN_drewN _ _ _) (congrArg (World.drewN _) (Nat.add_assoc _ _ _))⟩); have p148 : 0 ≤ (1 : Int) := (by omega); have q148 : 1 < (t139.length : Int) := od; obtain ⟨ad148,e148,hx148_0⟩ := Kd.at_string (Kd.R_reads' HO_6.out).2.2 1 p148 q148; obtain rfl : ad144 = ad148 := (by injection e148); (try simp only [show (1 : Int).toNat = 1 from rfl,Nat.reduceMul,Nat.reduceEqDiff,Go.Addr.add,↓reduceIte] at hx148_0); have qi148 : (1 < t139.length) = True := eq_true (by omega); (try rw [show ((1 : Int)).toNat = 1 from rfl] at hx148_0); replace p148 := eq_true p148; replace q148 := eq_true q148) | (go_at_call 53; (with_reducible refine (spec_l03Fixed.calls kj2 ((rdOf ByteArray.empty t139 1).extract 0 6) t149 true _ A20.out).mono ?_); rintro e w' ⟨rfl,⟨nd,rfl⟩⟩; (try first | exact ⟨rfl,_,World.drewN_drewN _ _ _⟩ | exact ⟨rfl,_,Eq.trans (World.drewN_drewN _ _ _) (congrArg (World.drewN _) (Nat.add_assoc _ _ _))⟩); have p151 : 0 ≤ (1 : Int) := (by omega); have q151 : 1 < (t139.length : Int) := od; obtain ⟨ad151,e151,hx151_0⟩ := Kd.at_string (Kd.R_reads' HO_6.out).2.2 1 p151 q151; obtain rfl : ad144 = ad151 := (by injection e151); (try simp only [show (1 : Int).toNat = 1 from rfl,Nat.reduceMul,Nat.reduceEqDiff,Go.Addr.add,↓reduceIte] at hx151_0); have qi151 : (1 < t139.length) = True := eq_true (by omega); (try rw [show ((1 : Int)).toNat = 1 from rfl] at hx151_0); replace p151 := eq_true p151; replace q151 := eq_true q151) | (go_at_call 53; (with_reducible refine (spec_l03Fixed.calls kj2 ((rdOf ByteArray.empty t139 1).extract 7 (rdOf ByteArray.empty t139 1).size) t152 false _ A22.out).mono ?_); rintro e w' ⟨rfl,⟨nd,rfl⟩⟩; (try first | exact ⟨rfl,_,World.drewN_drewN _ _ _⟩ | exact ⟨rfl,_,Eq.trans (World.drewN_drewN _ _ _) (congrArg (World.drewN _) (Nat.add_assoc _ _ _))⟩))); try go_wp2_with (first | (go_at_call 52; (with_reducible refine (spec_l01Bit.calls ((rdOf ByteArray.empty t139 0).toList == ([116,49] : List UInt8)) t145 _ A15.out).mono ?_); rintro e w' ⟨rfl,⟨nd,rfl⟩⟩; (try first | exact ⟨rfl,_,World.drewN_drewN _ _ _⟩ | exact ⟨rfl,_,Eq.trans (World.drewN_drewN _ _ _) (congrArg (World.drewN _) (Nat.add_assoc _ _ _))⟩); have p146 : 0 ≤ (0 : Int) := (by omega); have q146 : 0 < (t139.length : Int) := od; obtain ⟨ad146,e146,hx146_0⟩ := Kd.at_string (Kd.R_reads' HO_6.out).2.2 0 p146 q146; obtain rfl : ad144 = ad146 := (by injection e146); have qi146 : (0 < t139.length) = True := eq_true (by omega); (try rw [show ((0 : Int)).toNat = 0 from rfl] at hx146_0); (try rw [Addr.add_zero'] at hx146_0); replace p146 := eq_true p146; replace q146 := eq_true q146) | (go_at_call 52; (with_reducible refine (spec_l01Bit.calls ((rdOf ByteArray.empty t139 0).toList == ([116,50] : List UInt8)) t147 _ A16.out).mono ?_); rintro e w' ⟨rfl,⟨nd,rfl⟩⟩; (try first | exact ⟨rfl,_,World.drewN_drewN _ _ _⟩ | exact ⟨rfl,_,Eq.trans (World.drewN_drewN _ _ _) (congrArg (World.drewN _) (Nat.add_assoc _ _ _))⟩); have p148 : 0 ≤ (1 : Int) := (by omega); have q148 : 1 < (t139.length : Int) := od; obtain ⟨ad148,e148,hx148_0⟩ := Kd.at_string (Kd.R_reads' HO_6.out).2.2 1 p148 q148; obtain rfl : ad144 = ad148 := (by injection e148); (try simp only [show (1 : Int).toNat = 1 from rfl,Nat.reduceMul,Nat.reduceEqDiff,Go.Addr.add,↓reduceIte] at hx148_0); have qi148 : (1 < t139.length) = True := eq_true (by omega); (try rw [show ((1 : Int)).toNat = 1 from rfl] at hx148_0); replace p148 := eq_true p148; replace q148 := eq_true q148) | (go_at_call 53; (with_reducible refine (spec_l03Fixed.calls kj2 ((rdOf ByteArray.empty t139 1).extract 0 6) t149 true _ A20.out).mono ?_); rintro e w' ⟨rfl,⟨nd,rfl⟩⟩; (try first | exact ⟨rfl,_,World.drewN_drewN _ _ _⟩ | exact ⟨rfl,_,Eq.trans (World.drewN_drewN _ _ _) (congrArg (World.drewN _) (Nat.add_assoc _ _ _))⟩); have p151 : 0 ≤ (1 : Int) := (by omega); have q151 : 1 < (t139.length : Int) := od; obtain ⟨ad151,e151,hx151_0⟩ := Kd.at_string (Kd.R_reads' HO_6.out).2.2 1 p151 q151; obtain rfl : ad144 = ad151 := (by injection e151); (try simp only [show (1 : Int).toNat = 1 from rfl,Nat.reduceMul,Nat.reduceEqDiff,Go.Addr.add,↓reduceIte] at hx151_0); have qi151 : (1 < t139.length) = True := eq_true (by omega); (try rw [show ((1 : Int)).toNat = 1 from rfl] at hx151_0); replace p151 := eq_true p151; replace q151 := eq_true q151) | (go_at_call 53; (with_reducible refine (spec_l03Fixed.calls kj2 ((rdOf ByteArray.empty t139 1).extract 7 (rdOf ByteArray.empty t139 1).size) t152 false _ A22.out).mono ?_); rintro e w' ⟨rfl,⟨nd,rfl⟩⟩; (try first | exact ⟨rfl,_,World.drewN_drewN _ _ _⟩ | exact ⟨rfl,_,Eq.trans (World.drewN_drewN _ _ _) (congrArg (World.drewN _) (Nat.add_assoc _ _ _))⟩))))
           refine bodyPost_ret (results_list (rs := [.tmp 2,.tmp 3,.tmp 4,.tmp 5]) rfl (by simp) (.tmp (.tmp (.tmp (.tmp .nil))))) rfl ?_
           exact ⟨by first | rfl | (simp only [i64_w,i32_w] <;> rfl) | (simp [errW_none,errW_some] <;> rfl) | (simp [*,errW_none,errW_some] <;> rfl),bA⟩
         ·replace c23 := Bool.eq_false_iff.mpr c23
          subst c23
          rw [if_neg (show ¬ (false = true) by decide)] at H
          simp only [Option.some.injEq,Prod.mk.injEq] at H
          obtain ⟨rfl,rfl,rfl,rfl⟩ := H
          obtain ⟨Ao35,co35,eo35⟩ := Kd.R_slice HO_6.out
          subst eo35
          have p144 : 0 ≤ (0 : Int) := (by omega)
          have q144 : 0 < (t139.length : Int) := od
          obtain ⟨ad144,e144,hx144_0⟩ := Kd.at_string (Kd.R_reads' HO_6.out).2.2 0 p144 q144
          cases e144
          have qi144 : (0 < t139.length) = True := eq_true (by omega)
          (try rw [show ((0 : Int)).toNat = 0 from rfl] at hx144_0)
          (try rw [Addr.add_zero'] at hx144_0)
          replace p144 := eq_true p144
          replace q144 := eq_true q144
          go_wp2_with (first | (go_at_call 52; (with_reducible refine (spec_l01Bit.calls ((rdOf ByteArray.empty t139 0).toList == ([116,49] : List UInt8)) t145 _ A15.out).mono ?_); rintro e w' ⟨rfl,⟨nd,rfl⟩⟩; (try first | exact ⟨rfl,_,World.drewN_drewN _ _ _⟩ | exact ⟨rfl,_,Eq.trans (World.drewN_drewN _ _ _) (congrArg (World.drewN _) (Nat.add_assoc _ _ _))⟩); have p146 : 0 ≤ (0 : Int) := (by omega); have q146 : 0 < (t139.length : Int) := od; obtain ⟨ad146,e146,hx146_0⟩ := Kd.at_string (Kd.R_reads' HO_6.out).2.2 0 p146 q146; obtain rfl : ad144 = ad146 := (by injection e146); have qi146 : (0 < t139.length) = True := eq_true (by omega); (try rw [show ((0 : Int)).toNat = 0 from rfl] at hx146_0); (try rw [Addr.add_zero'] at hx146_0); replace p146 := eq_true p146; replace q146 := eq_true q146) | (go_at_call 52; (with_reducible refine (spec_l01Bit.calls ((rdOf ByteArray.empty t139 0).toList == ([116,50] : List UInt8)) t147 _ A16.out).mono ?_); rintro e w' ⟨rfl,⟨nd,rfl⟩⟩; (try first | exact ⟨rfl,_,World.drewN_drewN _ _ _⟩ | exact ⟨rfl,_,Eq.trans (World.drewN_drewN _ _ _) (congrArg (World.drewN _) (Nat.add_assoc _ _ _))⟩); have p148 : 0 ≤ (1 : Int) := (by omega); have q148 : 1 < (t139.length : Int) := od; obtain ⟨ad148,e148,hx148_0⟩ := Kd.at_string (Kd.R_reads' HO_6.out).2.2 1 p148 q148; obtain rfl : ad144 = ad148 := (by injection e148); (try simp only [show (1 : Int).toNat = 1 from rfl,Nat.reduceMul,Nat.reduceEqDiff,Go.Addr.add,↓reduceIte] at hx148_0); have qi148 : (1 < t139.length) = True := eq_true (by omega); (try rw [show ((1 : Int)).toNat = 1 from rfl] at hx148_0); replace p148 := eq_true p148; replace q148 := eq_true q148) | (go_at_call 53; (with_reducible refine (spec_l03Fixed.calls kj2 ((rdOf ByteArray.empty t139 1).extract 0 6) t149 false _ A20.out).mono ?_); rintro e w' ⟨rfl,⟨nd,rfl⟩⟩; (try first | exact ⟨rfl,_,World.drewN_drewN _ _ _⟩ | exact ⟨rfl,_,Eq.trans (World.drewN_drewN _ _ _) (congrArg (World.drewN _) (Nat.add_assoc _ _ _))⟩); have p151 : 0 ≤ (1 : Int) := (by omega); have q151 : 1 < (t139.length : Int) := od; obtain ⟨ad151,e151,hx151_0⟩ := Kd.at_string (Kd.R_reads' HO_6.out).2.2 1 p151 q151; obtain rfl : ad144 = ad151 := (by injection e151); (try simp only [show (1 : Int).toNat = 1 from rfl,Nat.reduceMul,Nat.reduceEqDiff,Go.Addr.add,↓reduceIte] at hx151_0); have qi151 : (1 < t139.length) = True := eq_true (by omega); (try rw [show ((1 : Int)).toNat = 1 from rfl] at hx151_0); replace p151 := eq_true p151; replace q151 := eq_true q151) | (go_at_call 53; (with_reducible refine (spec_l03Fixed.calls kj2 ((rdOf ByteArray.empty t139 1).extract 7 (rdOf ByteArray.empty t139 1).size) t152 t153 _ A22.out).mono ?_); rintro e w' ⟨rfl,⟨nd,rfl⟩⟩; (try first | exact ⟨rfl,_,World.drewN_drewN _ _ _⟩ | exact ⟨rfl,_,Eq.trans (World.drewN_drewN _ _ _) (congrArg (World.drewN _) (Nat.add_assoc _ _ _))⟩)))
          repeat (go_quiet (first | (go_at_call 52; (with_reducible refine (spec_l01Bit.calls ((rdOf ByteArray.empty t139 0).toList == ([116,49] : List UInt8)) t145 _ A15.out).mono ?_); rintro e w' ⟨rfl,⟨nd,rfl⟩⟩; (try first | exact ⟨rfl,_,World.drewN_drewN _ _ _⟩ | exact ⟨rfl,_,Eq.trans (World.drewN_drewN _ _ _) (congrArg (World.drewN _) (Nat.add_assoc _ _ _))⟩); have p146 : 0 ≤ (0 : Int) := (by omega); have q146 : 0 < (t139.length : Int) := od; obtain ⟨ad146,e146,hx146_0⟩ := Kd.at_string (Kd.R_reads' HO_6.out).2.2 0 p146 q146; obtain rfl : ad144 = ad146 := (by injection e146); have qi146 : (0 < t139.length) = True := eq_true (by omega); (try rw [show ((0 : Int)).toNat = 0 from rfl] at hx146_0); (try rw [Addr.add_zero'] at hx146_0); replace p146 := eq_true p146; replace q146 := eq_true q146) | (go_at_call 52; (with_reducible refine (spec_l01Bit.calls ((rdOf ByteArray.empty t139 0).toList == ([116,50] : List UInt8)) t147 _ A16.out).mono ?_); rintro e w' ⟨rfl,⟨nd,rfl⟩⟩; (try first | exact ⟨rfl,_,World.drewN_drewN _ _ _⟩ | exact ⟨rfl,_,Eq.trans (World.drewN_drewN _ _ _) (congrArg (World.drewN _) (Nat.add_assoc _ _ _))⟩); have p148 : 0 ≤ (1 : Int) := (by omega); have q148 : 1 < (t139.length : Int) := od; obtain ⟨ad148,e148,hx148_0⟩ := Kd.at_string (Kd.R_reads' HO_6.out).2.2 1 p148 q148; obtain rfl : ad144 = ad148 := (by injection e148); (try simp only [show (1 : Int).toNat = 1 from rfl,Nat.reduceMul,Nat.reduceEqDiff,Go.Addr.add,↓reduceIte] at hx148_0); have qi148 : (1 < t139.length) = True := eq_true (by omega); (try rw [show ((1 : Int)).toNat = 1 from rfl] at hx148_0); replace p148 := eq_true p148; replace q148 := eq_true q148) | (go_at_call 53; (with_reducible refine (spec_l03Fixed.calls kj2 ((rdOf ByteArray.empty t139 1).extract 0 6) t149 false _ A20.out).mono ?_); rintro e w' ⟨rfl,⟨nd,rfl⟩⟩; (try first | exact ⟨rfl,_,World.drewN_drewN _ _ _⟩ | exact ⟨rfl,_,Eq.trans (World.drewN_drewN _ _ _) (congrArg (World.drewN _) (Nat.add_assoc _ _ _))⟩); have p151 : 0 ≤ (1 : Int) := (by omega); have q151 : 1 < (t139.length : Int) := od; obtain ⟨ad151,e151,hx151_0⟩ := Kd.at_string (Kd.R_reads' HO_6.out).2.2 1 p151 q151; obtain rfl : ad144 = ad151 := (by injection e151); (try simp only [show (1 : Int).toNat = 1 from rfl,Nat.reduceMul,Nat.reduceEqDiff,Go.Addr.add,↓reduceIte] at hx151_0); have qi151 : (1 < t139.length) = True := eq_true (by omega); (try rw [show ((1 : Int)).toNat = 1 from rfl] at hx151_0); replace p151 := eq_true p151; replace q151 := eq_true q151) | (go_at_call 53; (with_reducible refine (spec_l03Fixed.calls kj2 ((rdOf ByteArray.empty t139 1).extract 7 (rdOf ByteArray.empty t139 1).size) t152 t153 _ A22.out).mono ?_); rintro e w' ⟨rfl,⟨nd,rfl⟩⟩; (try first | exact ⟨rfl,_,World.drewN_drewN _ _ _⟩ | exact ⟨rfl,_,Eq.trans (World.drewN_drewN _ _ _) (congrArg (World.drewN _) (Nat.add_assoc _ _ _))⟩))); try go_wp2_with (first | (go_at_call 52; (with_reducible refine (spec_l01Bit.calls ((rdOf ByteArray.empty t139 0).toList == ([116,49] : List UInt8)) t145 _ A15.out).mono ?_); rintro e w' ⟨rfl,⟨nd,rfl⟩⟩; (try first | exact ⟨rfl,_,World.drewN_drewN _ _ _⟩ | exact ⟨rfl,_,Eq.trans (World.drewN_drewN _ _ _) (congrArg (World.drewN _) (Nat.add_assoc _ _ _))⟩); have p146 : 0 ≤ (0 : Int) := (by omega); have q146 : 0 < (t139.length : Int) := od; obtain ⟨ad146,e146,hx146_0⟩ := Kd.at_string (Kd.R_reads' HO_6.out).2.2 0 p146 q146; obtain rfl : ad144 = ad146 := (by injection e146); have qi146 : (0 < t139.length) = True := eq_true (by omega); (try rw [show ((0 : Int)).toNat = 0 from rfl] at hx146_0); (try rw [Addr.add_zero'] at hx146_0); replace p146 := eq_true p146; replace q146 := eq_true q146) | (go_at_call 52; (with_reducible refine (spec_l01Bit.calls ((rdOf ByteArray.empty t139 0).toList == ([116,50] : List UInt8)) t147 _ A16.out).mono ?_); rintro e w' ⟨rfl,⟨nd,rfl⟩⟩; (try first | exact ⟨rfl,_,World.drewN_drewN _ _ _⟩ | exact ⟨rfl,_,Eq.trans (World.drewN_drewN _ _ _) (congrArg (World.drewN _) (Nat.add_assoc _ _ _))⟩); have p148 : 0 ≤ (1 : Int) := (by omega); have q148 : 1 < (t139.length : Int) := od; obtain ⟨ad148,e148,hx148_0⟩ := Kd.at_string (Kd.R_reads' HO_6.out).2.2 1 p148 q148; obtain rfl : ad144 = ad148 := (by injection e148); (try simp only [show (1 : Int).toNat = 1 from rfl,Nat.reduceMul,Nat.reduceEqDiff,Go.Addr.add,↓reduceIte] at hx148_0); have qi148 : (1 < t139.length) = True := eq_true (by omega); (try rw [show ((1 : Int)).toNat = 1 from rfl] at hx148_0); replace p148 := eq_true p148; replace q148 := eq_true q148) | (go_at_call 53; (with_reducible refine (spec_l03Fixed.calls kj2 ((rdOf ByteArray.empty t139 1).extract 0 6) t149 false _ A20.out).mono ?_); rintro e w' ⟨rfl,⟨nd,rfl⟩⟩; (try first | exact ⟨rfl,_,World.drewN_drewN _ _ _⟩ | exact ⟨rfl,_,Eq.trans (World.drewN_drewN _ _ _) (congrArg (World.drewN _) (Nat.add_assoc _ _ _))⟩); have p151 : 0 ≤ (1 : Int) := (by omega); have q151 : 1 < (t139.length : Int) := od; obtain ⟨ad151,e151,hx151_0⟩ := Kd.at_string (Kd.R_reads' HO_6.out).2.2 1 p151 q151; obtain rfl : ad144 = ad151 := (by injection e151); (try simp only [show (1 : Int).toNat = 1 from rfl,Nat.reduceMul,Nat.reduceEqDiff,Go.Addr.add,↓reduceIte] at hx151_0); have qi151 : (1 < t139.length) = True := eq_true (by omega); (try rw [show ((1 : Int)).toNat = 1 from rfl] at hx151_0); replace p151 := eq_true p151; replace q151 := eq_true q151) | (go_at_call 53; (with_reducible refine (spec_l03Fixed.calls kj2 ((rdOf ByteArray.empty t139 1).extract 7 (rdOf ByteArray.empty t139 1).size) t152 t153 _ A22.out).mono ?_); rintro e w' ⟨rfl,⟨nd,rfl⟩⟩; (try first | exact ⟨rfl,_,World.drewN_drewN _ _ _⟩ | exact ⟨rfl,_,Eq.trans (World.drewN_drewN _ _ _) (congrArg (World.drewN _) (Nat.add_assoc _ _ _))⟩))))
          refine bodyPost_ret (results_list (rs := [.tmp 2,.tmp 3,.tmp 4,.tmp 5]) rfl (by simp) (.tmp (.tmp (.tmp (.tmp .nil))))) rfl ?_
          exact ⟨by first | rfl | (simp only [i64_w,i32_w] <;> rfl) | (simp [errW_none,errW_some] <;> rfl) | (simp [*,errW_none,errW_some] <;> rfl),bA⟩
        ·rw [if_neg c21] at H
         exact absurd H (by simp)
       ·rw [if_neg c19] at H
        exact absurd H (by simp)
      ·rw [if_neg c18] at H
       exact absurd H (by simp)
     ·rw [if_neg c17] at H
      exact absurd H (by simp)
    ·rw [if_neg c14] at H
     exact absurd H (by simp)

/-! ### spec_l04Range: function 50 -/
def spec_l04Range.f (a0 : Int) (a1 : Int) : Option (Bool) := (spec_l01In.f a0 0 100000).bind fun t156 => (if t156 = true then ((spec_l01In.f a1 a0 100000).bind fun t157 => (some t157)) else (some false))
set_option maxHeartbeats 8000000 in
set_option maxRecDepth 100000 in
theorem spec_l04Range.calls (a0 : Int) (a1 : Int) (r : Bool) (w : World) (h : spec_l04Range.f a0 a1 = some r) :
  Calls Tryz.prog 50 #[.int .i64 a0,.int .i64 a1] w fun e w' => e = .returned (.bool r) ∧ Drawn0 w w' := by
 have H : ((spec_l01In.f a0 0 100000).bind fun t156 => (if t156 = true then ((spec_l01In.f a1 a0 100000).bind fun t157 => (some t157)) else (some false))) = some r := h
 clear h
 replace H := Option.bind_eq_some_iff.mp H
 obtain ⟨t156,A30,H⟩ := H
 try dsimp only at H
 have A3 := Aside0.mk A30
 clear A30
 by_cases c4 : t156 = true
 ·subst c4
  rw [if_pos rfl] at H
  replace H := Option.bind_eq_some_iff.mp H
  obtain ⟨t157,A50,H⟩ := H
  try dsimp only at H
  have A5 := Aside0.mk A50
  clear A50
  obtain rfl := Option.some.inj H
  go_enter Tryz.func50,Tryz.ntmps50
  go_wp2_with (first | ((with_reducible refine gate_callee (f:=34) rfl ?_); refine goesL_ (some 6) rfl rfl Tryz.func34 (by kernel_rfl) rfl #[.int .i64 a0,.int .i64 0,.int .i64 100000] rfl mA ?_; (with_reducible refine (spec_l01In.calls a0 0 100000 true _ A3.out).mono ?_); rintro e w' ⟨rfl,⟨nd,rfl⟩⟩; refine ⟨_,rfl,?_⟩) | (go_at_call 34; (with_reducible refine (spec_l01In.calls a1 a0 100000 t157 _ A5.out).mono ?_); rintro e w' ⟨rfl,⟨nd,rfl⟩⟩))
  go_ret
  exact ⟨by first | rfl | (simp; done) | (simp [*]; done),by repeat (first | exact Drawn0.refl _ | apply Drawn0.step)⟩
 ·replace c4 := Bool.eq_false_iff.mpr c4
  subst c4
  rw [if_neg (show ¬ (false = true) by decide)] at H
  obtain rfl := Option.some.inj H
  go_enter Tryz.func50,Tryz.ntmps50
  go_wp2_with (first | ((with_reducible refine gate_callee (f:=34) rfl ?_); refine goesL_ (some 6) rfl rfl Tryz.func34 (by kernel_rfl) rfl #[.int .i64 a0,.int .i64 0,.int .i64 100000] rfl mA ?_; (with_reducible refine (spec_l01In.calls a0 0 100000 false _ A3.out).mono ?_); rintro e w' ⟨rfl,⟨nd,rfl⟩⟩; refine ⟨_,rfl,?_⟩))
  go_ret
  exact ⟨by first | rfl | (simp; done) | (simp [*]; done),by repeat (first | exact Drawn0.refl _ | apply Drawn0.step)⟩

/-! ### spec_l06Tiered: function 35 -/
def spec_l06Tiered.f (k : Nat) (a0_0 : Int) (a0_1 : Int) (a0_2 : Int) (a0_3 : Int) (a0_4 : Int) (a0_5 : ByteArray) (a1 : Int) : Option (Bool) := (spec_l03ToKey.f k a0_5).bind fun bt159 => (if bt159.2.2.2 = true then (if bt159.1 = a0_2 then ((spec_l01In.f a0_2 a1 2).bind fun t163 => (if t163 = true then ((spec_l04Range.f a0_3 a0_4).bind fun t164 => (if t164 = true then (some (decide (a0_3 < a0_4))) else (some false))) else (some false))) else (some false)) else (some false))
theorem spec_l06Tiered.mono : ∀ a0 a1 a2 a3 a4 a5 a6 k,LeO (spec_l06Tiered.f k a0 a1 a2 a3 a4 a5 a6) (spec_l06Tiered.f (k + 1) a0 a1 a2 a3 a4 a5 a6) := by
 intro a0 a1 a2 a3 a4 a5 a6 k
 unfold spec_l06Tiered.f
 repeat' first
 | (with_reducible first | exact spec_l03ToKey.mono .. | exact LeO.refl _ | exact LeO.none _ | refine LeO.ite ?_ ?_ | refine LeO.bind ?_ (fun _ => ?_))
 | exact LeO.none _ | refine LeO.ite ?_ ?_ | refine LeO.bind ?_ (fun _ => ?_)
set_option maxHeartbeats 8000000 in
set_option maxRecDepth 100000 in
theorem spec_l06Tiered.calls (k : Nat) (a0_0 : Int) (a0_1 : Int) (a0_2 : Int) (a0_3 : Int) (a0_4 : Int) (a0_5 : ByteArray) (a1 : Int) (r : Bool) (w : World) (h : spec_l06Tiered.f k a0_0 a0_1 a0_2 a0_3 a0_4 a0_5 a1 = some r) :
  Calls Tryz.prog 35 #[.agg #[.int .i64 a0_0,.int .i64 a0_1,.int .i64 a0_2,.int .i64 a0_3,.int .i64 a0_4,.string a0_5],.int .i64 a1] w fun e w' => e = .returned (.bool r) ∧ Below w.heap.size w w' := by
 have hu67 := Tryz.underlying67
 have HB := Aside0.mk (Below.refl w.heap.size w)
 have H : ((spec_l03ToKey.f k a0_5).bind fun bt159 => (if bt159.2.2.2 = true then (if bt159.1 = a0_2 then ((spec_l01In.f a0_2 a1 2).bind fun t163 => (if t163 = true then ((spec_l04Range.f a0_3 a0_4).bind fun t164 => (if t164 = true then (some (decide (a0_3 < a0_4))) else (some false))) else (some false))) else (some false)) else (some false))) = some r := h
 clear h
 replace H := Option.bind_eq_some_iff.mp H
 obtain ⟨⟨t159,t160,t161,t162⟩,A30,H⟩ := H
 try dsimp only at H
 have A3 := Aside0.mk A30
 clear A30
 by_cases c4 : t162 = true
 ·subst c4
  rw [if_pos rfl] at H
  by_cases c5 : t159 = a0_2
  ·rw [if_pos c5] at H
   have c5b0 : (t159 == a0_2) = true := beq_iff_eq.mpr c5
   have c5b1 : (t159 != a0_2) = false := bne_eq_false_iff_eq.mpr c5
   clear c5
   replace H := Option.bind_eq_some_iff.mp H
   obtain ⟨t163,A60,H⟩ := H
   try dsimp only at H
   have A6 := Aside0.mk A60
   clear A60
   by_cases c7 : t163 = true
   ·subst c7
    rw [if_pos rfl] at H
    replace H := Option.bind_eq_some_iff.mp H
    obtain ⟨t164,A80,H⟩ := H
    try dsimp only at H
    have A8 := Aside0.mk A80
    clear A80
    by_cases c9 : t164 = true
    ·subst c9
     rw [if_pos rfl] at H
     obtain rfl := Option.some.inj H
     go_enter Tryz.func35,Tryz.ntmps35
     go_wp2_with (first | ((with_reducible refine gate_dst (N:=2) rfl ?_); refine box_event ?hg (N:=2) ?hd (cs := #[.int .i64 a0_0,.int .i64 a0_1,.int .i64 a0_2,.int .i64 a0_3,.int .i64 a0_4,.string a0_5]) (t:=67) ?hr ?_; (case hd => rfl); (case hg => rfl); (case hr => first | (go_simp; done) | (go_simp; rfl)); intro gb158 hg w10 hbox hb; have n0_ := Aside0.mk (below_step bA hb); have n1_ := Aside0.mk (hbox); have n2_ := Aside0.mk ((gw hg : w.heap.size ≤ gb158)); have n3_ := Aside0.mk ((gw hg : w.heap.size ≤ gb158)); clear HB; have HB := n0_; have BK158 := n1_; have GW158 := n2_; have GE158 := n3_; clear n0_ n1_ n2_ n3_; clear hb hbox hg; obtain ⟨hcz11_0,hcz11_1,hcz11_2,hcz11_3,hcz11_4,hcz11_5⟩ := cl6 BK158.out; obtain ⟨hfz11_0,hfz11_1,hfz11_2,hfz11_3,hfz11_4,hfz11_5⟩ := fz6 BK158.out) | ((with_reducible refine gate_callee (f:=37) rfl ?_); refine goesL_ (some 12) rfl rfl Tryz.func37 (by kernel_rfl) rfl #[.string a0_5] rfl mA ?_; (with_reducible refine (spec_l03ToKey.calls k a0_5 t159 t160 t161 true _ A3.out).mono ?_); rintro e w12 ⟨rfl,hb⟩; refine ⟨_,rfl,?_⟩; have n0_ := Aside0.mk (bb BK158.out hb); have n1_ := Aside0.mk (below_step bA hb); clear BK158 HB; have BK158 := n0_; have HB := n1_; clear n0_ n1_; (try clear hb); (try clear hb2); (try clear hk); (try clear hi); obtain ⟨hcz13_0,hcz13_1,hcz13_2,hcz13_3,hcz13_4,hcz13_5⟩ := cl6 BK158.out; obtain ⟨hfz13_0,hfz13_1,hfz13_2,hfz13_3,hfz13_4,hfz13_5⟩ := fz6 BK158.out) | (go_at_call 34; (with_reducible refine (spec_l01In.calls a0_2 a1 2 true _ A6.out).mono ?_); rintro e w' ⟨rfl,⟨nd,rfl⟩⟩) | (go_at_call 50; (with_reducible refine (spec_l04Range.calls a0_3 a0_4 true _ A8.out).mono ?_); rintro e w' ⟨rfl,⟨nd,rfl⟩⟩))
     go_ret
     exact ⟨by first | rfl | (simp [errW_none,errW_some] <;> rfl) | (simp [*,errW_none,errW_some] <;> rfl),bA⟩
    ·replace c9 := Bool.eq_false_iff.mpr c9
     subst c9
     rw [if_neg (show ¬ (false = true) by decide)] at H
     obtain rfl := Option.some.inj H
     go_enter Tryz.func35,Tryz.ntmps35
     go_wp2_with (first | ((with_reducible refine gate_dst (N:=2) rfl ?_); refine box_event ?hg (N:=2) ?hd (cs := #[.int .i64 a0_0,.int .i64 a0_1,.int .i64 a0_2,.int .i64 a0_3,.int .i64 a0_4,.string a0_5]) (t:=67) ?hr ?_; (case hd => rfl); (case hg => rfl); (case hr => first | (go_simp; done) | (go_simp; rfl)); intro gb158 hg w14 hbox hb; have n0_ := Aside0.mk (below_step bA hb); have n1_ := Aside0.mk (hbox); have n2_ := Aside0.mk ((gw hg : w.heap.size ≤ gb158)); have n3_ := Aside0.mk ((gw hg : w.heap.size ≤ gb158)); clear HB; have HB := n0_; have BK158 := n1_; have GW158 := n2_; have GE158 := n3_; clear n0_ n1_ n2_ n3_; clear hb hbox hg; obtain ⟨hcz15_0,hcz15_1,hcz15_2,hcz15_3,hcz15_4,hcz15_5⟩ := cl6 BK158.out; obtain ⟨hfz15_0,hfz15_1,hfz15_2,hfz15_3,hfz15_4,hfz15_5⟩ := fz6 BK158.out) | ((with_reducible refine gate_callee (f:=37) rfl ?_); refine goesL_ (some 12) rfl rfl Tryz.func37 (by kernel_rfl) rfl #[.string a0_5] rfl mA ?_; (with_reducible refine (spec_l03ToKey.calls k a0_5 t159 t160 t161 true _ A3.out).mono ?_); rintro e w16 ⟨rfl,hb⟩; refine ⟨_,rfl,?_⟩; have n0_ := Aside0.mk (bb BK158.out hb); have n1_ := Aside0.mk (below_step bA hb); clear BK158 HB; have BK158 := n0_; have HB := n1_; clear n0_ n1_; (try clear hb); (try clear hb2); (try clear hk); (try clear hi); obtain ⟨hcz17_0,hcz17_1,hcz17_2,hcz17_3,hcz17_4,hcz17_5⟩ := cl6 BK158.out; obtain ⟨hfz17_0,hfz17_1,hfz17_2,hfz17_3,hfz17_4,hfz17_5⟩ := fz6 BK158.out) | (go_at_call 34; (with_reducible refine (spec_l01In.calls a0_2 a1 2 true _ A6.out).mono ?_); rintro e w' ⟨rfl,⟨nd,rfl⟩⟩) | (go_at_call 50; (with_reducible refine (spec_l04Range.calls a0_3 a0_4 false _ A8.out).mono ?_); rintro e w' ⟨rfl,⟨nd,rfl⟩⟩))
     go_ret
     exact ⟨by first | rfl | (simp [errW_none,errW_some] <;> rfl) | (simp [*,errW_none,errW_some] <;> rfl),bA⟩
   ·replace c7 := Bool.eq_false_iff.mpr c7
    subst c7
    rw [if_neg (show ¬ (false = true) by decide)] at H
    obtain rfl := Option.some.inj H
    go_enter Tryz.func35,Tryz.ntmps35
    go_wp2_with (first | ((with_reducible refine gate_dst (N:=2) rfl ?_); refine box_event ?hg (N:=2) ?hd (cs := #[.int .i64 a0_0,.int .i64 a0_1,.int .i64 a0_2,.int .i64 a0_3,.int .i64 a0_4,.string a0_5]) (t:=67) ?hr ?_; (case hd => rfl); (case hg => rfl); (case hr => first | (go_simp; done) | (go_simp; rfl)); intro gb158 hg w18 hbox hb; have n0_ := Aside0.mk (below_step bA hb); have n1_ := Aside0.mk (hbox); have n2_ := Aside0.mk ((gw hg : w.heap.size ≤ gb158)); have n3_ := Aside0.mk ((gw hg : w.heap.size ≤ gb158)); clear HB; have HB := n0_; have BK158 := n1_; have GW158 := n2_; have GE158 := n3_; clear n0_ n1_ n2_ n3_; clear hb hbox hg; obtain ⟨hcz19_0,hcz19_1,hcz19_2,hcz19_3,hcz19_4,hcz19_5⟩ := cl6 BK158.out; obtain ⟨hfz19_0,hfz19_1,hfz19_2,hfz19_3,hfz19_4,hfz19_5⟩ := fz6 BK158.out) | ((with_reducible refine gate_callee (f:=37) rfl ?_); refine goesL_ (some 12) rfl rfl Tryz.func37 (by kernel_rfl) rfl #[.string a0_5] rfl mA ?_; (with_reducible refine (spec_l03ToKey.calls k a0_5 t159 t160 t161 true _ A3.out).mono ?_); rintro e w20 ⟨rfl,hb⟩; refine ⟨_,rfl,?_⟩; have n0_ := Aside0.mk (bb BK158.out hb); have n1_ := Aside0.mk (below_step bA hb); clear BK158 HB; have BK158 := n0_; have HB := n1_; clear n0_ n1_; (try clear hb); (try clear hb2); (try clear hk); (try clear hi); obtain ⟨hcz21_0,hcz21_1,hcz21_2,hcz21_3,hcz21_4,hcz21_5⟩ := cl6 BK158.out; obtain ⟨hfz21_0,hfz21_1,hfz21_2,hfz21_3,hfz21_4,hfz21_5⟩ := fz6 BK158.out) | (go_at_call 34; (with_reducible refine (spec_l01In.calls a0_2 a1 2 false _ A6.out).mono ?_); rintro e w' ⟨rfl,⟨nd,rfl⟩⟩))
    go_ret
    exact ⟨by first | rfl | (simp [errW_none,errW_some] <;> rfl) | (simp [*,errW_none,errW_some] <;> rfl),bA⟩
  ·rw [if_neg c5] at H
   have c5b0 : (t159 == a0_2) = false := beq_eq_false_iff_ne.mpr c5
   have c5b1 : (t159 != a0_2) = true := bne_iff_ne.mpr c5
   obtain rfl := Option.some.inj H
   go_enter Tryz.func35,Tryz.ntmps35
   go_wp2_with (first | ((with_reducible refine gate_dst (N:=2) rfl ?_); refine box_event ?hg (N:=2) ?hd (cs := #[.int .i64 a0_0,.int .i64 a0_1,.int .i64 a0_2,.int .i64 a0_3,.int .i64 a0_4,.string a0_5]) (t:=67) ?hr ?_; (case hd => rfl); (case hg => rfl); (case hr => first | (go_simp; done) | (go_simp; rfl)); intro gb158 hg w22 hbox hb; have n0_ := Aside0.mk (below_step bA hb); have n1_ := Aside0.mk (hbox); have n2_ := Aside0.mk ((gw hg : w.heap.size ≤ gb158)); have n3_ := Aside0.mk ((gw hg : w.heap.size ≤ gb158)); clear HB; have HB := n0_; have BK158 := n1_; have GW158 := n2_; have GE158 := n3_; clear n0_ n1_ n2_ n3_; clear hb hbox hg; obtain ⟨hcz23_0,hcz23_1,hcz23_2,hcz23_3,hcz23_4,hcz23_5⟩ := cl6 BK158.out; obtain ⟨hfz23_0,hfz23_1,hfz23_2,hfz23_3,hfz23_4,hfz23_5⟩ := fz6 BK158.out) | ((with_reducible refine gate_callee (f:=37) rfl ?_); refine goesL_ (some 12) rfl rfl Tryz.func37 (by kernel_rfl) rfl #[.string a0_5] rfl mA ?_; (with_reducible refine (spec_l03ToKey.calls k a0_5 t159 t160 t161 true _ A3.out).mono ?_); rintro e w24 ⟨rfl,hb⟩; refine ⟨_,rfl,?_⟩; have n0_ := Aside0.mk (bb BK158.out hb); have n1_ := Aside0.mk (below_step bA hb); clear BK158 HB; have BK158 := n0_; have HB := n1_; clear n0_ n1_; (try clear hb); (try clear hb2); (try clear hk); (try clear hi); obtain ⟨hcz25_0,hcz25_1,hcz25_2,hcz25_3,hcz25_4,hcz25_5⟩ := cl6 BK158.out; obtain ⟨hfz25_0,hfz25_1,hfz25_2,hfz25_3,hfz25_4,hfz25_5⟩ := fz6 BK158.out))
   go_ret
   exact ⟨by first | rfl | (simp [errW_none,errW_some] <;> rfl) | (simp [*,errW_none,errW_some] <;> rfl),bA⟩
 ·replace c4 := Bool.eq_false_iff.mpr c4
  subst c4
  rw [if_neg (show ¬ (false = true) by decide)] at H
  obtain rfl := Option.some.inj H
  go_enter Tryz.func35,Tryz.ntmps35
  go_wp2_with (first | ((with_reducible refine gate_dst (N:=2) rfl ?_); refine box_event ?hg (N:=2) ?hd (cs := #[.int .i64 a0_0,.int .i64 a0_1,.int .i64 a0_2,.int .i64 a0_3,.int .i64 a0_4,.string a0_5]) (t:=67) ?hr ?_; (case hd => rfl); (case hg => rfl); (case hr => first | (go_simp; done) | (go_simp; rfl)); intro gb158 hg w26 hbox hb; have n0_ := Aside0.mk (below_step bA hb); have n1_ := Aside0.mk (hbox); have n2_ := Aside0.mk ((gw hg : w.heap.size ≤ gb158)); have n3_ := Aside0.mk ((gw hg : w.heap.size ≤ gb158)); clear HB; have HB := n0_; have BK158 := n1_; have GW158 := n2_; have GE158 := n3_; clear n0_ n1_ n2_ n3_; clear hb hbox hg; obtain ⟨hcz27_0,hcz27_1,hcz27_2,hcz27_3,hcz27_4,hcz27_5⟩ := cl6 BK158.out; obtain ⟨hfz27_0,hfz27_1,hfz27_2,hfz27_3,hfz27_4,hfz27_5⟩ := fz6 BK158.out) | ((with_reducible refine gate_callee (f:=37) rfl ?_); refine goesL_ (some 12) rfl rfl Tryz.func37 (by kernel_rfl) rfl #[.string a0_5] rfl mA ?_; (with_reducible refine (spec_l03ToKey.calls k a0_5 t159 t160 t161 false _ A3.out).mono ?_); rintro e w28 ⟨rfl,hb⟩; refine ⟨_,rfl,?_⟩; have n0_ := Aside0.mk (bb BK158.out hb); have n1_ := Aside0.mk (below_step bA hb); clear BK158 HB; have BK158 := n0_; have HB := n1_; clear n0_ n1_; (try clear hb); (try clear hb2); (try clear hk); (try clear hi)))
  go_ret
  exact ⟨by first | rfl | (simp [errW_none,errW_some] <;> rfl) | (simp [*,errW_none,errW_some] <;> rfl),bA⟩

/-! ### spec_l06In: function 36 -/
def spec_l06In.l0 : Nat → List ByteArray → ByteArray → Int → Option (Bool)
 | 0,_,_,_ => none
 | k + 1,x0,x1,x5 => if x5 < (x0.length : Int) then (if 0 ≤ x5 then (if (rdOf ByteArray.empty x0 x5).toList = x1.toList then (some true) else (spec_l06In.l0 k x0 x1 (wrap64 (x5 + 1)))) else (none)) else (some false)
def spec_l06In.f (k : Nat) (l0 : List ByteArray) (a1 : ByteArray) : Option (Bool) := spec_l06In.l0 k l0 a1 0
theorem spec_l06In.mono_l : ∀ k,(∀ y0 y1 y2,LeO (spec_l06In.l0 k y0 y1 y2) (spec_l06In.l0 (k + 1) y0 y1 y2))
 | 0 => fun _ _ _ r h => by simp [spec_l06In.l0] at h
 | k + 1 => by
  have ih0 := spec_l06In.mono_l k
  ·intro y0 y1 y2
   unfold spec_l06In.l0
   repeat' first
   | (with_reducible first | exact ih0 .. | exact LeO.refl _ | exact LeO.none _ | refine LeO.ite ?_ ?_ | refine LeO.bind ?_ (fun _ => ?_))
   | exact LeO.none _ | refine LeO.ite ?_ ?_ | refine LeO.bind ?_ (fun _ => ?_)
theorem spec_l06In.mono : ∀ a0 a1 k,LeO (spec_l06In.f k a0 a1) (spec_l06In.f (k + 1) a0 a1) := by
 intro a0 a1 k
 have ih0 := spec_l06In.mono_l k
 unfold spec_l06In.f
 repeat' first
 | (with_reducible first | exact ih0 .. | exact LeO.refl _ | exact LeO.none _ | refine LeO.ite ?_ ?_ | refine LeO.bind ?_ (fun _ => ?_))
 | exact LeO.none _ | refine LeO.ite ?_ ?_ | refine LeO.bind ?_ (fun _ => ?_)
set_option maxHeartbeats 8000000 in
set_option maxRecDepth 100000 in
theorem spec_l06In.calls (k : Nat) (A0 : Option Addr) (c0 : Nat) (l0 : List ByteArray) (a1 : ByteArray) (r : Bool) (w : World) (hr0 : Kd.C Kd.string w A0 l0.length l0) (hc0 : l0.length ≤ c0) (h : spec_l06In.f k l0 a1 = some r) :
  Calls Tryz.prog 36 #[.slice A0 l0.length c0,.string a1] w fun e w' => e = .returned (.bool r) ∧ Drawn0 w w' := by
 have HR0 := Aside0.mk hr0
 have HC0 := Aside0.mk hc0
 clear hr0 hc0
 have H : (spec_l06In.l0 k l0 a1 0) = some r := h
 clear h
 have H' := Aside0.mk H
 clear H
 go_enter Tryz.func36,Tryz.ntmps36
 go_wp2
 go_loopg [5] k (fun kq v5 w' => ∃ (x5_1 : Int),v5 = .int .i64 x5_1 ∧ Aside0 (spec_l06In.l0 kq l0 a1 x5_1 = some r) ∧ Aside0 (kq ≤ k) ∧ Drawn0 w w')
 case atStart => exact ⟨(0),(by first | rfl | (simp; done) | (simp [*]; done)),H',⟨Nat.le_refl _⟩,by repeat (first | exact Drawn0.refl _ | apply Drawn0.step)⟩
 case round =>
  clear H'
  try clear p2
  obtain ⟨x5_1,rfl,HA,HK1,⟨m1,rfl⟩⟩ := hrel
  cases gk with
  | zero => exact absurd HA.out (by simp [spec_l06In.l0])
  | succ k1 =>
   have H := HA.out
   clear HA
   simp only [spec_l06In.l0] at H
   by_cases c3 : x5_1 < (l0.length : Int)
   ·rw [if_pos c3] at H
    have c3b0 : decide (x5_1 < (l0.length : Int)) = true := decide_eq_true c3
    clear c3
    by_cases c4 : 0 ≤ x5_1
    ·rw [if_pos c4] at H
     have c4b0 : decide (0 ≤ x5_1) = true := decide_eq_true c4
     clear c4
     by_cases c5 : (rdOf ByteArray.empty l0 x5_1).toList = a1.toList
     ·rw [if_pos c5] at H
      have c5b0 : ((rdOf ByteArray.empty l0 x5_1).toList == a1.toList) = true := beq_iff_eq.mpr c5
      have c5b1 : ((rdOf ByteArray.empty l0 x5_1).toList != a1.toList) = false := bne_eq_false_iff_eq.mpr c5
      clear c5
      obtain rfl := Option.some.inj H
      have p165 : 0 ≤ (x5_1 : Int) := od
      have q165 : x5_1 < (l0.length : Int) := od
      obtain ⟨ad165,e165,hx165_0⟩ := Kd.at_string HR0.out x5_1 p165 q165
      cases e165
      replace p165 := eq_true p165
      replace q165 := eq_true q165
      go_wp2
      go_ret
      exact ⟨by first | rfl | (simp; done) | (simp [*]; done),by repeat (first | exact Drawn0.refl _ | apply Drawn0.step)⟩
     ·rw [if_neg c5] at H
      have c5b0 : ((rdOf ByteArray.empty l0 x5_1).toList == a1.toList) = false := beq_eq_false_iff_ne.mpr c5
      have c5b1 : ((rdOf ByteArray.empty l0 x5_1).toList != a1.toList) = true := bne_iff_ne.mpr c5
      have H' := Aside0.mk H
      clear H
      have p165 : 0 ≤ (x5_1 : Int) := od
      have q165 : x5_1 < (l0.length : Int) := od
      obtain ⟨ad165,e165,hx165_0⟩ := Kd.at_string HR0.out x5_1 p165 q165
      cases e165
      replace p165 := eq_true p165
      replace q165 := eq_true q165
      go_wp2
      go_roundg k1
      case measure => have := HK1.out; omega
      case rel => exact ⟨(wrap64 (x5_1 + 1)),(by first | rfl | (simp; done) | (simp [*]; done)),H',⟨by have := HK1.out; omega⟩,by repeat (first | exact Drawn0.refl _ | apply Drawn0.step)⟩
    ·rw [if_neg c4] at H
     exact absurd H (by simp)
   ·rw [if_neg c3] at H
    have c3b0 : decide (x5_1 < (l0.length : Int)) = false := decide_eq_false c3
    clear c3
    obtain rfl := Option.some.inj H
    go_wp2
    go_ret
    exact ⟨by first | rfl | (simp; done) | (simp [*]; done),by repeat (first | exact Drawn0.refl _ | apply Drawn0.step)⟩

end Go.Proofs.YtfondhlknkhmmaaGreatDoor.XFnExactOrphansOf
