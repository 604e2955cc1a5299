-- Printed by this session's own program wip/tools/xprint.py, which widens the kit's print. Not trusted: Lean checks it.
import Derived.Test.YtfondhlknkhmmaaGreatDoorXFnExactOrphansOfx0
import Derived.Test.YtfondhlknkhmmaaGreatDoorXFnExactOrphansOfx7
namespace Go.Proofs.YtfondhlknkhmmaaGreatDoor.XFnExactOrphansOf
open List (setIfInBounds_toArray set_cons_zero set_cons_succ)
open Go.RowKit Go.Proofs.YtfondhlknkhmmaaGreatDoorW.PrintWords Go.Proofs.YtfondhlknkhmmaaGreatDoorW.PrintLast Go.Proofs.YtfondhlknkhmmaaGreatDoorW.PrintMore
attribute [local go_sem] max2_int min2_int max_two min_two max_three min_three max_four min_four   -- for this text's walks alone
set_option linter.unusedVariables false
set_option linter.unusedSimpArgs false

/-! ### impl_readSix: function 61 (by hand) -/
def impl_readSix.f (a0 : ByteArray) : Option (Int × Bool) := if a0.size ≤ 281474976710656 then (match Lib.atoiAll a0.data.toList with
 | .ok v => if 0 ≤ v ∧ v ≤ 999999 then (impl_six.f v).bind fun x => some (v,x.toList == a0.toList) else some (v,false)
 | .range => some (Lib.atoiSat a0.data.toList,false)
 | _ => some (0,false)) else none
set_option maxHeartbeats 8000000 in
set_option maxRecDepth 100000 in
theorem impl_readSix.calls (a0 : ByteArray) (r1 : Int) (r2 : Bool) (w : World) (hV : Vars w) (h : impl_readSix.f a0 = some (r1,r2)) :
  Calls Tryz.prog 61 #[.string a0] w fun e w' => e = .returned (.tuple #[.int .i64 r1,.bool r2]) ∧ Below w.heap.size w w' := by
 unfold impl_readSix.f at h
 split at h
 ·rename_i hsz
  rcases hA : Lib.atoiAll a0.data.toList with v | _ | _
  rotate_left
  ·rw [hA] at h
   obtain ⟨rfl,rfl⟩ := Prod.mk.inj (Option.some.inj h)
   obtain ⟨ev,hv,hev⟩ := hV.syn
   have hc := Aside0.mk (Tryz.strconv_Atoi_syntax a0 hsz (by rw [hA]; exact True.intro) ev w hv hev)
   clear hV hv hev hA hsz h
   go_enter Tryz.func61,Tryz.ntmps61
   go_wp2_with (go_at_call 68; refine hc.out.mono ?_; rintro e w1 ⟨N,rfl,hN,hcell,hb⟩; clear hN hcell; have HB := Aside0.mk hb; clear hb)
   go_ret2
   exact ⟨rfl,HB.out⟩
  ·rw [hA] at h
   obtain ⟨rfl,rfl⟩ := Prod.mk.inj (Option.some.inj h)
   obtain ⟨ev,hv,hev⟩ := hV.rng
   have hc := Aside0.mk (Tryz.strconv_Atoi_range a0 hsz hA ev w hv hev)
   clear hV hv hev hA hsz h
   generalize Lib.atoiSat a0.data.toList = z at hc
   go_enter Tryz.func61,Tryz.ntmps61
   go_wp2_with (go_at_call 68; refine hc.out.mono ?_; rintro e w1 ⟨N,rfl,hN,hcell,hb⟩; clear hN hcell; have HB := Aside0.mk hb; clear hb)
   go_ret2
   exact ⟨rfl,HB.out⟩
  ·rw [hA] at h
   have hc := Aside0.mk ((Tryz.strconv_Atoi_ok a0 (by omega) v hA w).mono fun e w' ⟨he,hw⟩ => (⟨he,by rcases hw with rfl | ⟨t,rfl⟩; exact Below.refl _ _; exact Lib.bytesWorld_below w _ t⟩ : e = _ ∧ Below w.heap.size w w'))
   have HV := Aside0.mk hV
   clear hV hA hsz
   by_cases hs : 0 ≤ v ∧ v ≤ 999999
   ·simp only [if_pos hs] at h
    obtain ⟨x,hx,h⟩ := Option.bind_eq_some_iff.mp h
    obtain ⟨rfl,rfl⟩ := Prod.mk.inj (Option.some.inj h)
    have HX := Aside0.mk hx
    have hW : Aside0 (∀ W,Calls Tryz.prog 41 #[.int .i64 v] W fun e w' => e = .returned (.bool true) ∧ Drawn0 W w') := ⟨fun W => impl_isSix.calls v _ W (by unfold impl_isSix.f impl_within.f; simp [hs.1,hs.2])⟩
    have hs := Aside0.mk hs
    clear hx h
    go_enter Tryz.func61,Tryz.ntmps61
    go_wp2_with (first
     | (go_at_call 68; refine hc.out.mono ?_; rintro e w1 ⟨rfl,hb⟩; have HB := Aside0.mk hb; clear hb)
     | (go_at_call 41; refine (hW.out _).mono ?_; rintro e w3 ⟨rfl,⟨nd,rfl⟩⟩; have HB1 := Aside0.mk (Drawn0.below_trans_ HB.out nd))
     | (go_at_call 69; refine (impl_six.calls v x _ (HV.out.below HB1.out) HX.out).mono ?_; rintro e w2 ⟨rfl,hb⟩; have HB2 := Aside0.mk (HB1.out.trans (hb.mono HB1.out.size) : Below w.heap.size w w2); clear hb))
    go_ret2
    exact ⟨rfl,HB2.out⟩
   ·simp only [if_neg hs] at h
    obtain ⟨rfl,rfl⟩ := Prod.mk.inj (Option.some.inj h)
    have hW : Aside0 (∀ W,Calls Tryz.prog 41 #[.int .i64 v] W fun e w' => e = .returned (.bool false) ∧ Drawn0 W w') := ⟨fun W => impl_isSix.calls v _ W (by unfold impl_isSix.f impl_within.f; by_cases h0 : 0 ≤ v <;> simp [h0]; omega)⟩
    have hs := Aside0.mk hs
    clear h
    go_enter Tryz.func61,Tryz.ntmps61
    go_wp2_with (first
     | (go_at_call 68; refine hc.out.mono ?_; rintro e w1 ⟨rfl,hb⟩; have HB := Aside0.mk hb; clear hb)
     | (go_at_call 41; refine (hW.out _).mono ?_; rintro e w3 ⟨rfl,⟨nd,rfl⟩⟩; have HB1 := Aside0.mk (Drawn0.below_trans_ HB.out nd)))
    go_ret2
    exact ⟨rfl,HB1.out⟩
 ·cases h

/-! ### impl_readDataKey: function 45 -/
mutual
def impl_readDataKey.l0 : Nat → ByteArray → List ByteArray → Int → Int → Option (Int × Int × Int × Bool)
 | 0,_,_,_,_ => none
 | k + 1,x0,x14,x15,x16 => if x16 < x15 then (if 0 ≤ x16 then (if x16 < (x14.length : Int) then ((strings_CutPrefix.f x0 (rdOf ByteArray.empty x14 x16)).bind fun bt284 => (if bt284.2 = true then (if (bt284.1.size : Int) = 13 then (if 6 < (bt284.1.size : Int) then (impl_readDataKey.j1 k x0 x16 bt284.1 x14 x15 x16 ((bt bt284.1 6) == 45)) else (none)) else (impl_readDataKey.j1 k x0 x16 bt284.1 x14 x15 x16 false)) else (impl_readDataKey.j1 k x0 x16 bt284.1 x14 x15 x16 false))) else (none)) else (none)) else (some (0,0,0,false))
def impl_readDataKey.j1 : Nat → ByteArray → Int → ByteArray → List ByteArray → Int → Int → Bool → Option (Int × Int × Int × Bool)
 | 0,_,_,_,_,_,_,_ => none
 | k + 1,x0,x6,x8,x14,x15,x16,x37 => if x37 = true then (if 0 ≤ 6 then (if 6 ≤ (x8.size : Int) then ((impl_readSix.f (x8.extract 0 6)).bind fun bt286 => (if 7 ≤ (x8.size : Int) then ((impl_readSix.f (x8.extract 7 x8.size)).bind fun bt288 => (if bt286.2 = true then (if bt288.2 = true then (some (x6,bt286.1,bt288.1,true)) else (impl_readDataKey.l0 k x0 x14 x15 (wrap64 (x16 + 1)))) else (impl_readDataKey.l0 k x0 x14 x15 (wrap64 (x16 + 1))))) else (none))) else (none)) else (none)) else (impl_readDataKey.l0 k x0 x14 x15 (wrap64 (x16 + 1)))
end
def impl_readDataKey.f (k : Nat) (a0 : ByteArray) : Option (Int × Int × Int × Bool) := (impl_dataPrefixes.f).bind fun t280 => (impl_readDataKey.l0 k a0 t280 (t280.length : Int) 0)
theorem impl_readDataKey.mono_l : ∀ k,(∀ y0 y1 y2 y3,LeO (impl_readDataKey.l0 k y0 y1 y2 y3) (impl_readDataKey.l0 (k + 1) y0 y1 y2 y3)) ∧ (∀ y0 y1 y2 y3 y4 y5 y6,LeO (impl_readDataKey.j1 k y0 y1 y2 y3 y4 y5 y6) (impl_readDataKey.j1 (k + 1) y0 y1 y2 y3 y4 y5 y6))
 | 0 => ⟨fun _ _ _ _ r h => by simp [impl_readDataKey.l0] at h,fun _ _ _ _ _ _ _ r h => by simp [impl_readDataKey.j1] at h⟩
 | k + 1 => by
  obtain ⟨ih0,ih1⟩ := impl_readDataKey.mono_l k
  refine ⟨?_,?_⟩
  all_goals
   intros
   first | unfold impl_readDataKey.l0 | unfold impl_readDataKey.j1
   repeat' first
   | (with_reducible first | exact ih0 .. | exact ih1 .. | exact LeO.refl _ | exact LeO.none _ | refine LeO.ite ?_ ?_ | refine LeO.bind ?_ (fun _ => ?_))
   | exact LeO.none _ | refine LeO.ite ?_ ?_ | refine LeO.bind ?_ (fun _ => ?_)
theorem impl_readDataKey.mono : ∀ a0 k,LeO (impl_readDataKey.f k a0) (impl_readDataKey.f (k + 1) a0) := by
 intro a0 k
 obtain ⟨ih0,ih1⟩ := impl_readDataKey.mono_l k
 unfold impl_readDataKey.f
 repeat' first
 | (with_reducible first | exact ih0 .. | exact ih1 .. | exact LeO.refl _ | exact LeO.none _ | refine LeO.ite ?_ ?_ | refine LeO.bind ?_ (fun _ => ?_))
 | exact LeO.none _ | refine LeO.ite ?_ ?_ | refine LeO.bind ?_ (fun _ => ?_)
set_option maxHeartbeats 8000000 in
set_option maxRecDepth 100000 in
theorem impl_readDataKey.calls (k : Nat) (a0 : ByteArray) (r1 : Int) (r2 : Int) (r3 : Int) (r4 : Bool) (w : World) (hV : Vars w) (h : impl_readDataKey.f k a0 = some (r1,r2,r3,r4)) :
  Calls Tryz.prog 45 #[.string a0] w fun e w' => e = .returned (.tuple #[.int .i64 r1,.int .i64 r2,.int .i64 r3,.bool r4]) ∧ Below w.heap.size w w' := by
 have HV := Aside0.mk hV
 clear hV
 have HB := Aside0.mk (Below.refl w.heap.size w)
 have H : ((impl_dataPrefixes.f).bind fun t280 => (impl_readDataKey.l0 k a0 t280 (t280.length : Int) 0)) = some (r1,r2,r3,r4) := h
 clear h
 replace H := Option.bind_eq_some_iff.mp H
 obtain ⟨t280,A20,H⟩ := H
 try dsimp only at H
 have A2 := Aside0.mk A20
 clear A20
 have H' := Aside0.mk H
 clear H
 go_enter Tryz.func45,Tryz.ntmps45
 go_wp2_with (first | ((with_reducible refine gate_callee (f:=59) rfl ?_); refine goesL_ (some 14) rfl rfl Tryz.func59 (by kernel_rfl) rfl #[] rfl mA ?_; (with_reducible refine (impl_dataPrefixes.calls  t280 _ A2.out).mono ?_); rintro e w3 ⟨v281,rfl,ho0,hb⟩; refine ⟨_,rfl,?_⟩; have n0_ := Aside0.mk (Kd.R_lower ho0 (below_size bA)); have n1_ := Aside0.mk (below_step bA hb); clear HB; have HO282 := n0_; have HB := n1_; clear n0_ n1_; (try clear hb); (try clear hb2); (try clear hk); (try clear hi); (try clear ho0); obtain ⟨Ao4,co4,eo4⟩ := Kd.R_slice HO282.out; subst eo4))
 go_loopg [16] k (fun kq v16 w' => ∃ (x16_1 : Int),v16 = .int .i64 x16_1 ∧ Aside0 (impl_readDataKey.l0 kq a0 t280 (t280.length : Int) x16_1 = some (r1,r2,r3,r4)) ∧ Aside0 (kq ≤ k) ∧ Aside0 (Kd.R Kd.string 9 w' w.heap.size (fun _ => True) (.slice Ao4 t280.length co4) t280) ∧ Aside0 (Below w.heap.size w w'))
 case atStart => exact ⟨(0),(by first | rfl | (simp; done) | (simp [*]; done)),H',⟨Nat.le_refl _⟩,⟨rA HO282.out⟩,⟨bA⟩⟩
 case round =>
  clear H'
  try clear p2
  try clear c4
  obtain ⟨x16_1,rfl,HA,HK1,HO_14,HB⟩ := hrel
  cases gk with
  | zero => exact absurd HA.out (by simp [impl_readDataKey.l0])
  | succ k1 =>
   have H := HA.out
   clear HA
   simp only [impl_readDataKey.l0] at H
   by_cases c5 : x16_1 < (t280.length : Int)
   ·rw [if_pos c5] at H
    have c5b0 : decide (x16_1 < (t280.length : Int)) = true := decide_eq_true c5
    clear c5
    by_cases c6 : 0 ≤ x16_1
    ·rw [if_pos c6] at H
     have c6b0 : decide (0 ≤ x16_1) = true := decide_eq_true c6
     clear c6
     by_cases c7 : x16_1 < (t280.length : Int)
     ·rw [if_pos c7] at H
      have c7b0 : decide (x16_1 < (t280.length : Int)) = true := decide_eq_true c7
      clear c7
      replace H := Option.bind_eq_some_iff.mp H
      obtain ⟨⟨t284,t285⟩,A80,H⟩ := H
      try dsimp only at H
      have A8 := Aside0.mk A80
      clear A80
      have HC9 := Aside0.mk H
      clear H
      have p283 : 0 ≤ (x16_1 : Int) := od
      have q283 : x16_1 < (t280.length : Int) := od
      obtain ⟨ad283,e283,hx283_0⟩ := Kd.at_string (Kd.R_reads' HO_14.out).2.2 x16_1 p283 q283
      cases e283
      replace p283 := eq_true p283
      replace q283 := eq_true q283
      go_upto_region 5 with (first | ((with_reducible refine gate_callee (f:=60) rfl ?_); refine goesL_ (some 24) rfl rfl Tryz.func60 (by kernel_rfl) rfl #[.string a0,.string (rdOf ByteArray.empty t280 x16_1)] rfl mA ?_; (with_reducible refine (strings_CutPrefix.calls a0 (rdOf ByteArray.empty t280 x16_1) t284 t285 _ A8.out).mono ?_); rintro e w10 ⟨rfl,hb⟩; refine ⟨_,rfl,?_⟩; have n0_ := Aside0.mk (Kd.R_below (rA HO_14.out) hb); have n1_ := Aside0.mk (below_step bA hb); clear HO_14 HB; have HO_14 := n0_; have HB := n1_; clear n0_ n1_; (try clear hb); (try clear hb2); (try clear hk); (try clear hi)))
      (try simp only [Act.put,setIfInBounds_toArray,set_cons_zero,set_cons_succ])
      go_cut [37] (fun v37 wc => ∃ (kq : Nat) (x37_8 : Bool),v37 = .bool x37_8 ∧ Aside0 (impl_readDataKey.j1 kq a0 x16_1 t284 t280 (t280.length : Int) x16_1 x37_8 = some (r1,r2,r3,r4)) ∧ Aside0 (kq ≤ k1) ∧ Aside0 (Kd.R Kd.string 9 wc w.heap.size (fun _ => True) (.slice (some ad283) t280.length co4) t280) ∧ Aside0 (Below w.heap.size w wc))
      case first =>
       have H := HC9.out
       clear HC9
       by_cases c11 : t285 = true
       ·subst c11
        rw [if_pos rfl] at H
        by_cases c12 : (t284.size : Int) = 13
        ·rw [if_pos c12] at H
         have c12b0 : ((t284.size : Int) == 13) = true := beq_iff_eq.mpr c12
         have c12b1 : ((t284.size : Int) != 13) = false := bne_eq_false_iff_eq.mpr c12
         clear c12
         (first | rw [c12b0] | (simp only [i64_w,i32_w]; rw [c12b0]) | skip)
         by_cases c13 : 6 < (t284.size : Int)
         ·rw [if_pos c13] at H
          have c13b0 : decide (6 < (t284.size : Int)) = true := decide_eq_true c13
          have c13b1 : decide (6 < t284.size) = true := decide_eq_true (by omega)
          clear c13
          have H' := Aside0.mk H
          clear H
          have p14 : 0 ≤ (6 : Int) := (by omega)
          have q14 : 6 < t284.size := (by have : (6 : Int) < (t284.size : Int) := od; omega)
          have hx14 : ∀ h : 6 < t284.size,((t284[6]'h).toNat : Int) = bt t284 6 := bt_at t284 6
          clear p14
          have qi14 : (6 < (t284.size : Int)) = True := eq_true (od)
          replace q14 := eq_true q14
          go_wp2
          go_meet
          case rel => exact ⟨_,(((bt t284 6) == 45)),(by first | rfl | (simp; done) | (simp [*]; done)),H',⟨by have := HK1.out; first | omega | exact Nat.le_refl _⟩,⟨rA HO_14.out⟩,⟨bA⟩⟩
         ·rw [if_neg c13] at H
          exact absurd H (by simp)
        ·rw [if_neg c12] at H
         have c12b0 : ((t284.size : Int) == 13) = false := beq_eq_false_iff_ne.mpr c12
         have c12b1 : ((t284.size : Int) != 13) = true := bne_iff_ne.mpr c12
         (first | rw [c12b0] | (simp only [i64_w,i32_w]; rw [c12b0]) | skip)
         have H' := Aside0.mk H
         clear H
         go_wp2
         go_meet
         case rel => exact ⟨_,(false),(by first | rfl | (simp; done) | (simp [*]; done)),H',⟨by have := HK1.out; first | omega | exact Nat.le_refl _⟩,⟨rA HO_14.out⟩,⟨bA⟩⟩
       ·replace c11 := Bool.eq_false_iff.mpr c11
        subst c11
        rw [if_neg (show ¬ (false = true) by decide)] at H
        have H' := Aside0.mk H
        clear H
        go_wp2
        go_meet
        case rel => exact ⟨_,(false),(by first | rfl | (simp; done) | (simp [*]; done)),H',⟨by have := HK1.out; first | omega | exact Nat.le_refl _⟩,⟨rA HO_14.out⟩,⟨bA⟩⟩
      case rest =>
       clear HC9
       try clear c1
       try clear p1
       try clear q1
       try clear hx1
       try clear qi1
       try clear p2
       try clear q2
       try clear hx2
       try clear c4
       try clear c5
       try clear c5b0
       try clear c6
       try clear c6b0
       try clear c7
       try clear c7b0
       try clear c11
       try clear c12
       try clear c12b0
       try clear c12b1
       try clear c13
       try clear c13b0
       try clear c13b1
       try clear p14
       try clear q14
       try clear hx14
       try clear qi14
       try clear hx283_0
       try clear p14
       try clear p2
       try clear p283
       try clear q14
       try clear q283
       obtain ⟨kq,x37_8,rfl,HA,HJ8,HO_14,HB⟩ := hcut
       cases kq with
       | zero => exact absurd HA.out (by simp [impl_readDataKey.j1])
       | succ kj8 =>
        have H := HA.out
        clear HA
        simp only [impl_readDataKey.j1] at H
        by_cases c15 : x37_8 = true
        ·subst c15
         rw [if_pos rfl] at H
         by_cases c16 : 0 ≤ 6
         ·rw [if_pos c16] at H
          have c16b0 := eq_true c16
          have c16b1 : decide (0 ≤ 6) = true := decide_eq_true c16
          clear c16
          by_cases c17 : 6 ≤ (t284.size : Int)
          ·rw [if_pos c17] at H
           have c17b0 := eq_true c17
           have c17b1 : decide (6 ≤ (t284.size : Int)) = true := decide_eq_true c17
           clear c17
           replace H := Option.bind_eq_some_iff.mp H
           obtain ⟨⟨t286,t287⟩,A180,H⟩ := H
           try dsimp only at H
           have A18 := Aside0.mk A180
           clear A180
           by_cases c19 : 7 ≤ (t284.size : Int)
           ·rw [if_pos c19] at H
            have c19b0 := eq_true c19
            have c19b1 : decide (7 ≤ (t284.size : Int)) = true := decide_eq_true c19
            clear c19
            replace H := Option.bind_eq_some_iff.mp H
            obtain ⟨⟨t288,t289⟩,A200,H⟩ := H
            try dsimp only at H
            have A20 := Aside0.mk A200
            clear A200
            by_cases c21 : t287 = true
            ·subst c21
             rw [if_pos rfl] at H
             by_cases c22 : t289 = true
             ·subst c22
              rw [if_pos rfl] at H
              simp only [Option.some.injEq,Prod.mk.injEq] at H
              obtain ⟨rfl,rfl,rfl,rfl⟩ := H
              go_wp2_with (first | ((with_reducible refine gate_callee (f:=61) rfl ?_); refine goesL_ (some 41) rfl rfl Tryz.func61 (by kernel_rfl) rfl #[.string (t284.extract 0 6)] rfl mA ?_; (with_reducible refine (impl_readSix.calls (t284.extract 0 6) t286 true _ ?side1 A18.out).mono ?_); (case side1 => exact HV.out.below bA); rintro e w23 ⟨rfl,hb⟩; refine ⟨_,rfl,?_⟩; have n0_ := Aside0.mk (Kd.R_below (rA HO_14.out) hb); have n1_ := Aside0.mk (below_step bA hb); clear HO_14 HB; have HO_14 := n0_; have HB := n1_; clear n0_ n1_; (try clear hb); (try clear hb2); (try clear hk); (try clear hi)) | ((with_reducible refine gate_callee (f:=61) rfl ?_); refine goesL_ (some 47) rfl rfl Tryz.func61 (by kernel_rfl) rfl #[.string (t284.extract 7 t284.size)] rfl mA ?_; (with_reducible refine (impl_readSix.calls (t284.extract 7 t284.size) t288 true _ ?side1 A20.out).mono ?_); (case side1 => exact HV.out.below bA); rintro e w24 ⟨rfl,hb⟩; refine ⟨_,rfl,?_⟩; have n0_ := Aside0.mk (Kd.R_below (rA HO_14.out) hb); have n1_ := Aside0.mk (below_step bA hb); clear HO_14 HB; have HO_14 := n0_; have HB := n1_; clear n0_ n1_; (try clear hb); (try clear hb2); (try clear hk); (try clear hi)))
              refine bodyPost_ret (results_list (rs := [.tmp 2,.tmp 3,.tmp 4,.tmp 5]) rfl (by simp) (.tmp (.tmp (.tmp (.tmp .nil))))) rfl ?_
              exact ⟨by first | rfl | (simp only [i64_w,i32_w] <;> rfl) | (simp [errW_none,errW_some] <;> rfl) | (simp [*,errW_none,errW_some] <;> rfl),bA⟩
             ·replace c22 := Bool.eq_false_iff.mpr c22
              subst c22
              rw [if_neg (show ¬ (false = true) by decide)] at H
              have H' := Aside0.mk H
              clear H
              go_wp2_with (first | ((with_reducible refine gate_callee (f:=61) rfl ?_); refine goesL_ (some 41) rfl rfl Tryz.func61 (by kernel_rfl) rfl #[.string (t284.extract 0 6)] rfl mA ?_; (with_reducible refine (impl_readSix.calls (t284.extract 0 6) t286 true _ ?side1 A18.out).mono ?_); (case side1 => exact HV.out.below bA); rintro e w25 ⟨rfl,hb⟩; refine ⟨_,rfl,?_⟩; have n0_ := Aside0.mk (Kd.R_below (rA HO_14.out) hb); have n1_ := Aside0.mk (below_step bA hb); clear HO_14 HB; have HO_14 := n0_; have HB := n1_; clear n0_ n1_; (try clear hb); (try clear hb2); (try clear hk); (try clear hi)) | ((with_reducible refine gate_callee (f:=61) rfl ?_); refine goesL_ (some 47) rfl rfl Tryz.func61 (by kernel_rfl) rfl #[.string (t284.extract 7 t284.size)] rfl mA ?_; (with_reducible refine (impl_readSix.calls (t284.extract 7 t284.size) t288 false _ ?side1 A20.out).mono ?_); (case side1 => exact HV.out.below bA); rintro e w26 ⟨rfl,hb⟩; refine ⟨_,rfl,?_⟩; have n0_ := Aside0.mk (Kd.R_below (rA HO_14.out) hb); have n1_ := Aside0.mk (below_step bA hb); clear HO_14 HB; have HO_14 := n0_; have HB := n1_; clear n0_ n1_; (try clear hb); (try clear hb2); (try clear hk); (try clear hi)))
              go_roundg kj8
              case measure => have := HK1.out; have := HJ8.out; omega
              case rel => exact ⟨(wrap64 (x16_1 + 1)),(by first | rfl | (simp; done) | (simp [*]; done)),H',⟨by have := HK1.out; have := HJ8.out; omega⟩,⟨rA HO_14.out⟩,⟨bA⟩⟩
            ·replace c21 := Bool.eq_false_iff.mpr c21
             subst c21
             rw [if_neg (show ¬ (false = true) by decide)] at H
             have H' := Aside0.mk H
             clear H
             go_wp2_with (first | ((with_reducible refine gate_callee (f:=61) rfl ?_); refine goesL_ (some 41) rfl rfl Tryz.func61 (by kernel_rfl) rfl #[.string (t284.extract 0 6)] rfl mA ?_; (with_reducible refine (impl_readSix.calls (t284.extract 0 6) t286 false _ ?side1 A18.out).mono ?_); (case side1 => exact HV.out.below bA); rintro e w27 ⟨rfl,hb⟩; refine ⟨_,rfl,?_⟩; have n0_ := Aside0.mk (Kd.R_below (rA HO_14.out) hb); have n1_ := Aside0.mk (below_step bA hb); clear HO_14 HB; have HO_14 := n0_; have HB := n1_; clear n0_ n1_; (try clear hb); (try clear hb2); (try clear hk); (try clear hi)) | ((with_reducible refine gate_callee (f:=61) rfl ?_); refine goesL_ (some 47) rfl rfl Tryz.func61 (by kernel_rfl) rfl #[.string (t284.extract 7 t284.size)] rfl mA ?_; (with_reducible refine (impl_readSix.calls (t284.extract 7 t284.size) t288 t289 _ ?side1 A20.out).mono ?_); (case side1 => exact HV.out.below bA); rintro e w28 ⟨rfl,hb⟩; refine ⟨_,rfl,?_⟩; have n0_ := Aside0.mk (Kd.R_below (rA HO_14.out) hb); have n1_ := Aside0.mk (below_step bA hb); clear HO_14 HB; have HO_14 := n0_; have HB := n1_; clear n0_ n1_; (try clear hb); (try clear hb2); (try clear hk); (try clear hi)))
             go_roundg kj8
             case measure => have := HK1.out; have := HJ8.out; omega
             case rel => exact ⟨(wrap64 (x16_1 + 1)),(by first | rfl | (simp; done) | (simp [*]; done)),H',⟨by have := HK1.out; have := HJ8.out; omega⟩,⟨rA HO_14.out⟩,⟨bA⟩⟩
           ·rw [if_neg c19] at H
            exact absurd H (by simp)
          ·rw [if_neg c17] at H
           exact absurd H (by simp)
         ·rw [if_neg c16] at H
          exact absurd H (by simp)
        ·replace c15 := Bool.eq_false_iff.mpr c15
         subst c15
         rw [if_neg (show ¬ (false = true) by decide)] at H
         have H' := Aside0.mk H
         clear H
         go_wp2
         go_roundg kj8
         case measure => have := HK1.out; have := HJ8.out; omega
         case rel => exact ⟨(wrap64 (x16_1 + 1)),(by first | rfl | (simp; done) | (simp [*]; done)),H',⟨by have := HK1.out; have := HJ8.out; omega⟩,⟨rA HO_14.out⟩,⟨bA⟩⟩
     ·rw [if_neg c7] at H
      exact absurd H (by simp)
    ·rw [if_neg c6] at H
     exact absurd H (by simp)
   ·rw [if_neg c5] at H
    have c5b0 : decide (x16_1 < (t280.length : Int)) = false := decide_eq_false c5
    clear c5
    simp only [Option.some.injEq,Prod.mk.injEq] at H
    obtain ⟨rfl,rfl,rfl,rfl⟩ := H
    go_wp2
    refine bodyPost_ret (results_list (rs := [.tmp 2,.tmp 3,.tmp 4,.tmp 5]) rfl (by simp) (.tmp (.tmp (.tmp (.tmp .nil))))) rfl ?_
    exact ⟨by first | rfl | (simp only [i64_w,i32_w] <;> rfl) | (simp [errW_none,errW_some] <;> rfl) | (simp [*,errW_none,errW_some] <;> rfl),bA⟩

/-! ### impl_isRange: function 58 -/
def impl_isRange.f (a0 : Int) (a1 : Int) : Option (Bool) := if 0 ≤ a0 then (if a0 ≤ a1 then (some (decide (a1 ≤ 100000))) else (some false)) else (some false)
set_option maxHeartbeats 8000000 in
set_option maxRecDepth 100000 in
theorem impl_isRange.calls (a0 : Int) (a1 : Int) (r : Bool) (w : World) (h : impl_isRange.f a0 a1 = some r) :
  Calls Tryz.prog 58 #[.int .i64 a0,.int .i64 a1] w fun e w' => e = .returned (.bool r) ∧ Drawn0 w w' := by
 have H : (if 0 ≤ a0 then (if a0 ≤ a1 then (some (decide (a1 ≤ 100000))) else (some false)) else (some false)) = some r := h
 clear h
 by_cases c3 : 0 ≤ a0
 ·rw [if_pos c3] at H
  have c3b0 : decide (0 ≤ a0) = true := decide_eq_true c3
  clear c3
  by_cases c4 : a0 ≤ a1
  ·rw [if_pos c4] at H
   have c4b0 : decide (a0 ≤ a1) = true := decide_eq_true c4
   clear c4
   obtain rfl := Option.some.inj H
   go_enter Tryz.func58,Tryz.ntmps58
   go_wp2
   go_ret
   exact ⟨by first | rfl | (simp; done) | (simp [*]; done),by repeat (first | exact Drawn0.refl _ | apply Drawn0.step)⟩
  ·rw [if_neg c4] at H
   have c4b0 : decide (a0 ≤ a1) = false := decide_eq_false c4
   clear c4
   obtain rfl := Option.some.inj H
   go_enter Tryz.func58,Tryz.ntmps58
   go_wp2
   go_ret
   exact ⟨by first | rfl | (simp; done) | (simp [*]; done),by repeat (first | exact Drawn0.refl _ | apply Drawn0.step)⟩
 ·rw [if_neg c3] at H
  have c3b0 : decide (0 ≤ a0) = false := decide_eq_false c3
  clear c3
  obtain rfl := Option.some.inj H
  go_enter Tryz.func58,Tryz.ntmps58
  go_wp2
  go_ret
  exact ⟨by first | rfl | (simp; done) | (simp [*]; done),by repeat (first | exact Drawn0.refl _ | apply Drawn0.step)⟩

/-! ### impl_entryOK: function 44 -/
def impl_entryOK.f (k : Nat) (a0_0 : Int) (a0_1 : Int) (a0_2 : Int) (a0_3 : ByteArray) : Option (Bool) := (impl_readDataKey.f k a0_3).bind fun bt291 => (if bt291.2.2.2 = true then (if bt291.1 = a0_0 then ((impl_isRange.f a0_1 a0_2).bind fun t295 => (if t295 = true then (some (decide (a0_1 < a0_2))) else (some false))) else (some false)) else (some false))
theorem impl_entryOK.mono : ∀ a0 a1 a2 a3 k,LeO (impl_entryOK.f k a0 a1 a2 a3) (impl_entryOK.f (k + 1) a0 a1 a2 a3) := by
 intro a0 a1 a2 a3 k
 unfold impl_entryOK.f
 repeat' first
 | (with_reducible first | exact impl_readDataKey.mono .. | exact LeO.refl _ | exact LeO.none _ | refine LeO.ite ?_ ?_ | refine LeO.bind ?_ (fun _ => ?_))
 | exact LeO.none _ | refine LeO.ite ?_ ?_ | refine LeO.bind ?_ (fun _ => ?_)
set_option maxHeartbeats 8000000 in
set_option maxRecDepth 100000 in
theorem impl_entryOK.calls (k : Nat) (a0_0 : Int) (a0_1 : Int) (a0_2 : Int) (a0_3 : ByteArray) (r : Bool) (w : World) (hV : Vars w) (h : impl_entryOK.f k a0_0 a0_1 a0_2 a0_3 = some r) :
  Calls Tryz.prog 44 #[.agg #[.int .i64 a0_0,.int .i64 a0_1,.int .i64 a0_2,.string a0_3]] w fun e w' => e = .returned (.bool r) ∧ Below w.heap.size w w' := by
 have hu64 := Tryz.underlying64
 have HV := Aside0.mk hV
 clear hV
 have HB := Aside0.mk (Below.refl w.heap.size w)
 have H : ((impl_readDataKey.f k a0_3).bind fun bt291 => (if bt291.2.2.2 = true then (if bt291.1 = a0_0 then ((impl_isRange.f a0_1 a0_2).bind fun t295 => (if t295 = true then (some (decide (a0_1 < a0_2))) else (some false))) else (some false)) else (some false))) = some r := h
 clear h
 replace H := Option.bind_eq_some_iff.mp H
 obtain ⟨⟨t291,t292,t293,t294⟩,A20,H⟩ := H
 try dsimp only at H
 have A2 := Aside0.mk A20
 clear A20
 by_cases c3 : t294 = true
 ·subst c3
  rw [if_pos rfl] at H
  by_cases c4 : t291 = a0_0
  ·rw [if_pos c4] at H
   have c4b0 : (t291 == a0_0) = true := beq_iff_eq.mpr c4
   have c4b1 : (t291 != a0_0) = false := bne_eq_false_iff_eq.mpr c4
   clear c4
   replace H := Option.bind_eq_some_iff.mp H
   obtain ⟨t295,A50,H⟩ := H
   try dsimp only at H
   have A5 := Aside0.mk A50
   clear A50
   by_cases c6 : t295 = true
   ·subst c6
    rw [if_pos rfl] at H
    obtain rfl := Option.some.inj H
    go_enter Tryz.func44,Tryz.ntmps44
    go_wp2_with (first | ((with_reducible refine gate_dst (N:=1) rfl ?_); refine box_event ?hg (N:=1) ?hd (cs := #[.int .i64 a0_0,.int .i64 a0_1,.int .i64 a0_2,.string a0_3]) (t:=64) ?hr ?_; (case hd => rfl); (case hg => rfl); (case hr => first | (go_simp; done) | (go_simp; rfl)); intro gb290 hg w7 hbox hb; have n0_ := Aside0.mk (below_step bA hb); have n1_ := Aside0.mk (hbox); have n2_ := Aside0.mk ((gw hg : w.heap.size ≤ gb290)); have n3_ := Aside0.mk ((gw hg : w.heap.size ≤ gb290)); clear HB; have HB := n0_; have BK290 := n1_; have GW290 := n2_; have GE290 := n3_; clear n0_ n1_ n2_ n3_; clear hb hbox hg; obtain ⟨hcz8_0,hcz8_1,hcz8_2,hcz8_3⟩ := cl4 BK290.out; obtain ⟨hfz8_0,hfz8_1,hfz8_2,hfz8_3⟩ := fz4 BK290.out) | ((with_reducible refine gate_callee (f:=45) rfl ?_); refine goesL_ (some 10) rfl rfl Tryz.func45 (by kernel_rfl) rfl #[.string a0_3] rfl mA ?_; (with_reducible refine (impl_readDataKey.calls k a0_3 t291 t292 t293 true _ ?side1 A2.out).mono ?_); (case side1 => exact HV.out.below bA); rintro e w9 ⟨rfl,hb⟩; refine ⟨_,rfl,?_⟩; have n0_ := Aside0.mk (bb BK290.out hb); have n1_ := Aside0.mk (below_step bA hb); clear BK290 HB; have BK290 := n0_; have HB := n1_; clear n0_ n1_; (try clear hb); (try clear hb2); (try clear hk); (try clear hi); obtain ⟨hcz10_0,hcz10_1,hcz10_2,hcz10_3⟩ := cl4 BK290.out; obtain ⟨hfz10_0,hfz10_1,hfz10_2,hfz10_3⟩ := fz4 BK290.out) | (go_at_call 58; (with_reducible refine (impl_isRange.calls a0_1 a0_2 true _ A5.out).mono ?_); rintro e w' ⟨rfl,⟨nd,rfl⟩⟩))
    go_ret
    exact ⟨by first | rfl | (simp [errW_none,errW_some] <;> rfl) | (simp [*,errW_none,errW_some] <;> rfl),bA⟩
   ·replace c6 := Bool.eq_false_iff.mpr c6
    subst c6
    rw [if_neg (show ¬ (false = true) by decide)] at H
    obtain rfl := Option.some.inj H
    go_enter Tryz.func44,Tryz.ntmps44
    go_wp2_with (first | ((with_reducible refine gate_dst (N:=1) rfl ?_); refine box_event ?hg (N:=1) ?hd (cs := #[.int .i64 a0_0,.int .i64 a0_1,.int .i64 a0_2,.string a0_3]) (t:=64) ?hr ?_; (case hd => rfl); (case hg => rfl); (case hr => first | (go_simp; done) | (go_simp; rfl)); intro gb290 hg w11 hbox hb; have n0_ := Aside0.mk (below_step bA hb); have n1_ := Aside0.mk (hbox); have n2_ := Aside0.mk ((gw hg : w.heap.size ≤ gb290)); have n3_ := Aside0.mk ((gw hg : w.heap.size ≤ gb290)); clear HB; have HB := n0_; have BK290 := n1_; have GW290 := n2_; have GE290 := n3_; clear n0_ n1_ n2_ n3_; clear hb hbox hg; obtain ⟨hcz12_0,hcz12_1,hcz12_2,hcz12_3⟩ := cl4 BK290.out; obtain ⟨hfz12_0,hfz12_1,hfz12_2,hfz12_3⟩ := fz4 BK290.out) | ((with_reducible refine gate_callee (f:=45) rfl ?_); refine goesL_ (some 10) rfl rfl Tryz.func45 (by kernel_rfl) rfl #[.string a0_3] rfl mA ?_; (with_reducible refine (impl_readDataKey.calls k a0_3 t291 t292 t293 true _ ?side1 A2.out).mono ?_); (case side1 => exact HV.out.below bA); rintro e w13 ⟨rfl,hb⟩; refine ⟨_,rfl,?_⟩; have n0_ := Aside0.mk (bb BK290.out hb); have n1_ := Aside0.mk (below_step bA hb); clear BK290 HB; have BK290 := n0_; have HB := n1_; clear n0_ n1_; (try clear hb); (try clear hb2); (try clear hk); (try clear hi); obtain ⟨hcz14_0,hcz14_1,hcz14_2,hcz14_3⟩ := cl4 BK290.out; obtain ⟨hfz14_0,hfz14_1,hfz14_2,hfz14_3⟩ := fz4 BK290.out) | (go_at_call 58; (with_reducible refine (impl_isRange.calls a0_1 a0_2 false _ A5.out).mono ?_); rintro e w' ⟨rfl,⟨nd,rfl⟩⟩))
    go_ret
    exact ⟨by first | rfl | (simp [errW_none,errW_some] <;> rfl) | (simp [*,errW_none,errW_some] <;> rfl),bA⟩
  ·rw [if_neg c4] at H
   have c4b0 : (t291 == a0_0) = false := beq_eq_false_iff_ne.mpr c4
   have c4b1 : (t291 != a0_0) = true := bne_iff_ne.mpr c4
   obtain rfl := Option.some.inj H
   go_enter Tryz.func44,Tryz.ntmps44
   go_wp2_with (first | ((with_reducible refine gate_dst (N:=1) rfl ?_); refine box_event ?hg (N:=1) ?hd (cs := #[.int .i64 a0_0,.int .i64 a0_1,.int .i64 a0_2,.string a0_3]) (t:=64) ?hr ?_; (case hd => rfl); (case hg => rfl); (case hr => first | (go_simp; done) | (go_simp; rfl)); intro gb290 hg w15 hbox hb; have n0_ := Aside0.mk (below_step bA hb); have n1_ := Aside0.mk (hbox); have n2_ := Aside0.mk ((gw hg : w.heap.size ≤ gb290)); have n3_ := Aside0.mk ((gw hg : w.heap.size ≤ gb290)); clear HB; have HB := n0_; have BK290 := n1_; have GW290 := n2_; have GE290 := n3_; clear n0_ n1_ n2_ n3_; clear hb hbox hg; obtain ⟨hcz16_0,hcz16_1,hcz16_2,hcz16_3⟩ := cl4 BK290.out; obtain ⟨hfz16_0,hfz16_1,hfz16_2,hfz16_3⟩ := fz4 BK290.out) | ((with_reducible refine gate_callee (f:=45) rfl ?_); refine goesL_ (some 10) rfl rfl Tryz.func45 (by kernel_rfl) rfl #[.string a0_3] rfl mA ?_; (with_reducible refine (impl_readDataKey.calls k a0_3 t291 t292 t293 true _ ?side1 A2.out).mono ?_); (case side1 => exact HV.out.below bA); rintro e w17 ⟨rfl,hb⟩; refine ⟨_,rfl,?_⟩; have n0_ := Aside0.mk (bb BK290.out hb); have n1_ := Aside0.mk (below_step bA hb); clear BK290 HB; have BK290 := n0_; have HB := n1_; clear n0_ n1_; (try clear hb); (try clear hb2); (try clear hk); (try clear hi); obtain ⟨hcz18_0,hcz18_1,hcz18_2,hcz18_3⟩ := cl4 BK290.out; obtain ⟨hfz18_0,hfz18_1,hfz18_2,hfz18_3⟩ := fz4 BK290.out))
   go_ret
   exact ⟨by first | rfl | (simp [errW_none,errW_some] <;> rfl) | (simp [*,errW_none,errW_some] <;> rfl),bA⟩
 ·replace c3 := Bool.eq_false_iff.mpr c3
  subst c3
  rw [if_neg (show ¬ (false = true) by decide)] at H
  obtain rfl := Option.some.inj H
  go_enter Tryz.func44,Tryz.ntmps44
  go_wp2_with (first | ((with_reducible refine gate_dst (N:=1) rfl ?_); refine box_event ?hg (N:=1) ?hd (cs := #[.int .i64 a0_0,.int .i64 a0_1,.int .i64 a0_2,.string a0_3]) (t:=64) ?hr ?_; (case hd => rfl); (case hg => rfl); (case hr => first | (go_simp; done) | (go_simp; rfl)); intro gb290 hg w19 hbox hb; have n0_ := Aside0.mk (below_step bA hb); have n1_ := Aside0.mk (hbox); have n2_ := Aside0.mk ((gw hg : w.heap.size ≤ gb290)); have n3_ := Aside0.mk ((gw hg : w.heap.size ≤ gb290)); clear HB; have HB := n0_; have BK290 := n1_; have GW290 := n2_; have GE290 := n3_; clear n0_ n1_ n2_ n3_; clear hb hbox hg; obtain ⟨hcz20_0,hcz20_1,hcz20_2,hcz20_3⟩ := cl4 BK290.out; obtain ⟨hfz20_0,hfz20_1,hfz20_2,hfz20_3⟩ := fz4 BK290.out) | ((with_reducible refine gate_callee (f:=45) rfl ?_); refine goesL_ (some 10) rfl rfl Tryz.func45 (by kernel_rfl) rfl #[.string a0_3] rfl mA ?_; (with_reducible refine (impl_readDataKey.calls k a0_3 t291 t292 t293 false _ ?side1 A2.out).mono ?_); (case side1 => exact HV.out.below bA); rintro e w21 ⟨rfl,hb⟩; refine ⟨_,rfl,?_⟩; have n0_ := Aside0.mk (bb BK290.out hb); have n1_ := Aside0.mk (below_step bA hb); clear BK290 HB; have BK290 := n0_; have HB := n1_; clear n0_ n1_; (try clear hb); (try clear hb2); (try clear hk); (try clear hi)))
  go_ret
  exact ⟨by first | rfl | (simp [errW_none,errW_some] <;> rfl) | (simp [*,errW_none,errW_some] <;> rfl),bA⟩

/-! ### impl_Entry: function 43 (by hand) -/
def idxP (p : Nat → Bool) : Nat → Nat → Int
 | 0,_ => -1
 | d + 1,i => if p i = true then (i : Int) else idxP p d (i + 1)
theorem idxP_succ (p : Nat → Bool) (d i : Nat) : idxP p (d + 1) i = if p i = true then (i : Int) else idxP p d (i + 1) := rfl
theorem idxP_some (p : Nat → Bool) : ∀ (d i : Nat),decide (0 ≤ idxP p d i) = ((List.range' i d).any p)
 | 0,i => rfl
 | d + 1,i => by
  have ih := idxP_some p d (i + 1)
  rw [List.range'_succ,List.any_cons,← ih,idxP_succ]
  cases h : p i with
  | true => rw [if_pos rfl,decide_eq_true (Int.natCast_nonneg i)]; rfl
  | false => rw [if_neg (by decide)]; rfl
def allAt (q : S64 → Bool) (l : List S64) : Bool := !((List.range' 0 l.length).any fun i => !(q (l.getD i z64)))
theorem allAt_eq (q : S64 → Bool) (l : List S64) : allAt q l = l.all q := by
 unfold allAt
 rw [Bool.eq_iff_iff,Bool.not_eq_true',List.any_eq_false,List.all_eq_true]
 constructor
 ·intro h x hx
  obtain ⟨i,hi,rfl⟩ := List.getElem_of_mem hx
  have := h i (by rw [List.mem_range'_1]; omega)
  rw [List.getD_eq_getElem?_getD,List.getElem?_eq_getElem hi] at this
  simpa using this
 ·intro h i hi
  rw [List.mem_range'_1] at hi
  have hlt : i < l.length := by omega
  have := h l[i] (List.getElem_mem hlt)
  rw [List.getD_eq_getElem?_getD,List.getElem?_eq_getElem hlt]
  simp [this]
set_option maxHeartbeats 4000000 in
set_option maxRecDepth 100000 in
theorem idx_entry (g : Nat) (lb : Array Value) (eg : ∀ args w,(callFunc g args).run Tryz.prog w = .ok (.enter g args) w) (p : Nat → Bool) (A0 : Option Addr) (c0 : Nat) (l0 : List S64) (w : World) (hr0 : Kd.C k64 w A0 l0.length l0) (hsz : l0.length ≤ 140737488351232)
  (hp : ∀ (W : World) (i : Nat),i < l0.length → Below w.heap.size w W → Calls Tryz.prog g (#[.agg #[.int .i64 (l0.getD i z64).f0,.int .i64 (l0.getD i z64).f1,.int .i64 (l0.getD i z64).f2,.string (l0.getD i z64).f3]] ++ lb) W fun e w' => e = .returned (.bool (p i)) ∧ Below w.heap.size w w') :
  Calls Tryz.prog 66 #[.slice A0 l0.length c0,.func (.func g) #[] lb] w fun e w' => e = .returned (.int .i64 (idxP p l0.length 0)) ∧ Below w.heap.size w w' := by
 have HR := Aside0.mk hr0
 have HP := Aside0.mk hp
 have S0 := Aside0.mk (Below.refl w.heap.size w)
 have u84 := Tryz.underlying64
 clear hr0 hp
 generalize hidx : idxP p l0.length 0 = idx
 have ID := Aside0.mk hidx
 clear hidx
 go_enter Tryz.func66,Tryz.ntmps66
 go_wp2
 go_loopg [5,8] l0.length (fun gg _ s8 wr => ∃ i : Nat,i ≤ l0.length ∧ l0.length - i ≤ gg ∧ s8 = .int .i64 i ∧ Aside0 (Below w.heap.size w wr) ∧ Aside0 (idxP p (l0.length - i) i = idx))
 case atStart => exact ⟨0,Nat.zero_le _,by omega,rfl,S0,ID⟩
 case round =>
  clear S0 ID
  obtain ⟨i,hi,hg,rfl,HB,I⟩ := hrel
  by_cases hlt : i < l0.length
  ·have hltz : (i : Int) < (l0.length : Int) := by omega
   have p0 : 0 ≤ (i : Int) := by omega
   obtain ⟨ad,ea,h0,h1,h2,h3⟩ := at_T64 HR.out (i : Int) p0 hltz
   cases ea
   replace h0 := cb HB.out h0
   replace h1 := cb HB.out h1
   replace h2 := cb HB.out h2
   replace h3 := cb HB.out h3
   rw [Int.toNat_natCast] at h0 h1 h2 h3
   have hcall := HP.out wr i hlt HB.out
   have hy : rd_T64 l0 (i : Int) = l0.getD i z64 := by unfold rd_T64; rw [Int.toNat_natCast]
   rw [hy] at h0 h1 h2 h3
   clear hy HP
   generalize l0.getD i z64 = y at h0 h1 h2 h3 hcall
   have hstep : idxP p (l0.length - i) i = if p i = true then (i : Int) else idxP p (l0.length - (i + 1)) (i + 1) := by
    rw [show l0.length - i = (l0.length - (i + 1)) + 1 by omega]
    rfl
   have I2 := Aside0.mk (hstep.symm.trans I.out)
   clear hstep I
   cases hq : p i with
   | true =>
    rw [hq] at hcall I2
    go_wp2_with (go_at_fn g; refine hcall.mono ?_; rintro e w' ⟨rfl,hb'⟩; have HB2 := Aside0.mk hb'; clear hb')
    go_ret
    exact ⟨by rw [← I2.out]; rfl,HB2.out⟩
   | false =>
    rw [hq] at hcall I2
    go_wp2_with (go_at_fn g; refine hcall.mono ?_; rintro e w' ⟨rfl,hb'⟩; have HB2 := Aside0.mk hb'; clear hb')
    go_roundg (l0.length - (i + 1))
    case measure => omega
    case rel => exact ⟨i + 1,by omega,Nat.le_refl _,by go_num,HB2,⟨I2.out⟩⟩
  ·obtain rfl : i = l0.length := by omega
   have hltz : ¬ (l0.length : Int) < (l0.length : Int) := by omega
   have I2 : Aside0 (idx = -1) := ⟨by rw [← I.out,Nat.sub_self]; rfl⟩
   clear I
   go_wp2
   go_ret
   exact ⟨by rw [I2.out]; rfl,HB.out⟩
set_option maxHeartbeats 2000000 in
set_option maxRecDepth 100000 in
theorem cont_entry (g : Nat) (lb : Array Value) (eg : ∀ args w,(callFunc g args).run Tryz.prog w = .ok (.enter g args) w) (p : Nat → Bool) (A0 : Option Addr) (c0 : Nat) (l0 : List S64) (w : World) (hr0 : Kd.C k64 w A0 l0.length l0) (hsz : l0.length ≤ 140737488351232)
  (hp : ∀ (W : World) (i : Nat),i < l0.length → Below w.heap.size w W → Calls Tryz.prog g (#[.agg #[.int .i64 (l0.getD i z64).f0,.int .i64 (l0.getD i z64).f1,.int .i64 (l0.getD i z64).f2,.string (l0.getD i z64).f3]] ++ lb) W fun e w' => e = .returned (.bool (p i)) ∧ Below w.heap.size w w') :
  Calls Tryz.prog 56 #[.slice A0 l0.length c0,.func (.func g) #[] lb] w fun e w' => e = .returned (.bool ((List.range' 0 l0.length).any p)) ∧ Below w.heap.size w w' := by
 rw [← idxP_some p l0.length 0]
 have hcon := Aside0.mk (idx_entry g lb eg p A0 c0 l0 w hr0 hsz hp)
 clear hr0 hp
 generalize idxP p l0.length 0 = n at hcon ⊢
 generalize l0.length = m at hcon ⊢
 go_enter Tryz.func56,Tryz.ntmps56
 go_wp2_with (go_at_call 66; refine hcon.out.mono ?_; rintro e w' ⟨rfl,hb⟩; have HB := Aside0.mk hb; clear hb)
 go_ret
 exact ⟨rfl,HB.out⟩
set_option maxHeartbeats 2000000 in
set_option maxRecDepth 100000 in
theorem all_one (h : Nat) (lb : Array Value) (eh : ∀ args w,(callFunc h args).run Tryz.prog w = .ok (.enter h args) w) (b : Bool) (x0 x1 x2 : Int) (x3 : ByteArray) (w W : World) (B : Nat) (hB : w.heap.size ≤ B) (hb0 : Below w.heap.size w W) (hc : W.cell? ⟨B,0,none⟩ = some (.func (.func h) #[] lb))
  (hh : ∀ (W' : World),Below w.heap.size w W' → Calls Tryz.prog h (#[.agg #[.int .i64 x0,.int .i64 x1,.int .i64 x2,.string x3]] ++ lb) W' fun e w' => e = .returned (.bool b) ∧ Below W'.heap.size W' w') :
  Calls Tryz.prog 57 (#[.agg #[.int .i64 x0,.int .i64 x1,.int .i64 x2,.string x3]] ++ #[.pointer (some ⟨B,0,none⟩)]) W fun e w' => e = .returned (.bool (!b)) ∧ Below W.heap.size W w' := by
 have HB := Aside0.mk (Below.refl W.heap.size W)
 have HW := Aside0.mk hb0
 have HH := Aside0.mk hh
 have u84 := Tryz.underlying64
 clear hh hb0
 show Calls Tryz.prog 57 #[.agg #[.int .i64 x0,.int .i64 x1,.int .i64 x2,.string x3],.pointer (some ⟨B,0,none⟩)] W _
 go_enter Tryz.func57,Tryz.ntmps57
 go_wp2_with (first
  | ((with_reducible refine gate_dst (N:=2) rfl ?_); refine box_event ?hg (N:=2) ?hd (cs := #[.int .i64 x0,.int .i64 x1,.int .i64 x2,.string x3]) (t:=64) ?hr ?_; (case hd => rfl); (case hg => rfl); (case hr => first | (go_simp; done) | (go_simp; rfl)); intro gb hg w7 hbox hb; have HB1 := Aside0.mk (below_step HB.out hb); have HW1 := Aside0.mk (below_step HW.out hb); replace hc := cb hb hc; have hcE : w7.cell? ⟨gb,0,none⟩ = some (.int .i64 x0) := (blk_cell hbox 0).trans rfl; have hcF : w7.cell? ⟨gb,1,none⟩ = some (.int .i64 x1) := (blk_cell hbox 1).trans rfl; have hcG : w7.cell? ⟨gb,2,none⟩ = some (.int .i64 x2) := (blk_cell hbox 2).trans rfl; have hcH : w7.cell? ⟨gb,3,none⟩ = some (.string x3) := (blk_cell hbox 3).trans rfl; clear hb hbox hg)
  | (go_at_fn h; refine (HH.out _ (by repeat (first | (with_reducible exact HW1.out) | apply below_alloc | apply pw_below_drewN | apply below_drew1))).mono ?_; rintro e w9 ⟨rfl,hb⟩; have HB2 := Aside0.mk (Below.trans (by repeat (first | (with_reducible exact HB1.out) | apply below_alloc | apply pw_below_drewN | apply below_drew1)) (hb.mono (by exact HB1.out.size)) : Below W.heap.size W w9); clear hb))
 go_ret
 exact ⟨rfl,HB2.out⟩
set_option maxHeartbeats 2000000 in
set_option maxRecDepth 100000 in
theorem all_entry (h : Nat) (lb : Array Value) (eh : ∀ args w,(callFunc h args).run Tryz.prog w = .ok (.enter h args) w) (q : S64 → Bool) (A0 : Option Addr) (c0 : Nat) (l0 : List S64) (w : World) (hr0 : Kd.C k64 w A0 l0.length l0) (hsz : l0.length ≤ 140737488351232)
  (hq : ∀ (W : World) (i : Nat),i < l0.length → Below w.heap.size w W → Calls Tryz.prog h (#[.agg #[.int .i64 (l0.getD i z64).f0,.int .i64 (l0.getD i z64).f1,.int .i64 (l0.getD i z64).f2,.string (l0.getD i z64).f3]] ++ lb) W fun e w' => e = .returned (.bool (q (l0.getD i z64))) ∧ Below W.heap.size W w') :
  Calls Tryz.prog 43 #[.slice A0 l0.length c0,.func (.func h) #[] lb] w fun e w' => e = .returned (.bool (l0.all q)) ∧ Below w.heap.size w w' := by
 rw [← allAt_eq]
 unfold allAt
 have eg : ∀ args w,(callFunc 57 args).run Tryz.prog w = .ok (.enter 57 args) w := enters_of Tryz.func57 (by kernel_rfl) rfl
 have hal : Below w.heap.size w (w.alloc (.cells #[.func (.func h) #[] lb] 80)) := (Below.refl _ w).alloc (Nat.le_refl _) _
 have hcon := Aside0.mk (cont_entry 57 #[.pointer (some ⟨w.heap.size,0,none⟩)] eg (fun i => !(q (l0.getD i z64))) A0 c0 l0 (w.alloc (.cells #[.func (.func h) #[] lb] 80)) (Kd.C_below hr0 hal) hsz (fun W i hi hb => by
  have hsz1 : (w.alloc (.cells #[.func (.func h) #[] lb] 80)).heap.size = w.heap.size + 1 := by simp
  have hW : Below w.heap.size w W := hal.trans (hb.mono (by omega))
  refine (all_one h lb eh (q (l0.getD i z64)) _ _ _ _ w W w.heap.size (Nat.le_refl _) hW ((hb.cell (p:=⟨w.heap.size,0,none⟩) (by simp)).trans (by simp)) (fun W' hW' => hq W' i hi hW')).mono ?_
  rintro e w' ⟨he,hb'⟩
  exact ⟨he,hb.trans (hb'.mono hb.size)⟩))
 clear hr0 hq
 generalize ((List.range' 0 l0.length).any fun i => !(q (l0.getD i z64))) = a at hcon ⊢
 generalize l0.length = n at hcon ⊢
 have HAL := Aside0.mk hal
 clear hal
 go_enter Tryz.func43,Tryz.ntmps43
 go_wp2_with (go_at_call 56; refine hcon.out.mono ?_; rintro e w' ⟨rfl,hb⟩; have HB2 := Aside0.mk hb; clear hb)
 go_ret
 exact ⟨rfl,HAL.out.trans (HB2.out.mono HAL.out.size)⟩
def okE (k : Nat) (x : S64) : Option Bool := impl_entryOK.f k x.f0 x.f1 x.f2 x.f3
def impl_Entry.f (k : Nat) (l0 : List S64) : Option Bool := if (l0.all fun x => (okE k x).isSome) = true ∧ l0.length ≤ 140737488351232 then some (l0.all fun x => okE k x == some true) else none
theorem impl_Entry.mono : ∀ l0 k,LeO (impl_Entry.f k l0) (impl_Entry.f (k + 1) l0) := by
 intro l0 k r h
 unfold impl_Entry.f at h ⊢
 split at h
 ·rename_i hh
  obtain ⟨h1,h2⟩ := hh
  have hm : ∀ x ∈ l0,okE (k + 1) x = okE k x := fun x hx => by
   have := List.all_eq_true.1 h1 x hx
   obtain ⟨b,hb⟩ := Option.isSome_iff_exists.1 this
   rw [hb]
   exact impl_entryOK.mono _ _ _ _ k b hb
  have e1 : (l0.all fun x => (okE (k + 1) x).isSome) = true := by
   rw [List.all_eq_true]
   intro x hx
   rw [hm x hx]
   exact List.all_eq_true.1 h1 x hx
  have e2 : (l0.all fun x => okE (k + 1) x == some true) = l0.all fun x => okE k x == some true := by
   rw [Bool.eq_iff_iff,List.all_eq_true,List.all_eq_true]
   exact ⟨fun h x hx => by rw [← hm x hx]; exact h x hx,fun h x hx => by rw [hm x hx]; exact h x hx⟩
  rw [if_pos ⟨e1,h2⟩,e2]
  exact h
 ·cases h
set_option maxHeartbeats 2000000 in
theorem impl_Entry.calls (k : Nat) (A0 : Option Addr) (c0 : Nat) (l0 : List S64) (r : Bool) (w : World) (hV : Vars w) (hr0 : Kd.C k64 w A0 l0.length l0) (hc0 : l0.length ≤ c0) (h : impl_Entry.f k l0 = some r) :
  Calls Tryz.prog 43 #[.slice A0 l0.length c0,.func (.func 44) #[] #[]] w fun e w' => e = .returned (.bool r) ∧ Below w.heap.size w w' := by
 unfold impl_Entry.f at h
 split at h
 ·rename_i hh
  obtain ⟨h1,h2⟩ := hh
  obtain rfl := Option.some.inj h
  exact all_entry 44 #[] (enters_of Tryz.func44 (by kernel_rfl) rfl) (fun x => okE k x == some true) A0 c0 l0 w hr0 h2 (fun W i hi hb => by
   have hx : l0.getD i z64 ∈ l0 := by rw [List.getD_eq_getElem?_getD,List.getElem?_eq_getElem hi]; exact List.getElem_mem hi
   obtain ⟨b,hb1⟩ := Option.isSome_iff_exists.1 (List.all_eq_true.1 h1 _ hx)
   refine (impl_entryOK.calls k _ _ _ _ b W (hV.below hb) hb1).mono ?_
   rintro e w' ⟨he,hb2⟩
   refine ⟨?_,hb2⟩
   rw [he,hb1]
   cases b <;> rfl)
 ·cases h

/-! ### impl_State_of: function 46 -/
def impl_State_of.l0 : Nat → Int → List (S64) → List (S64) → Int → Int → Option ((List (S64)))
 | 0,_,_,_,_,_ => none
 | k + 1,x1,x5,x10,x11,x12 => if x12 < x11 then (if 0 ≤ x12 then (if x12 < (x10.length : Int) then (if ((rd_T64 x10 x12).f0) = x1 then (if x5.length < 3518437208883 then (impl_State_of.l0 k x1 (x5 ++ [(⟨(rd_T64 x10 x12).f0,(rd_T64 x10 x12).f1,(rd_T64 x10 x12).f2,(rd_T64 x10 x12).f3⟩ : S64)]) x10 x11 (wrap64 (x12 + 1))) else (none)) else (impl_State_of.l0 k x1 x5 x10 x11 (wrap64 (x12 + 1)))) else (none)) else (none)) else (some x5)
def impl_State_of.f (k : Nat) (a0_0 : Int) (a0_1 : Int) (l0_2 : List (S64)) (l0_3 : List (S71)) (a0_4 : Int) (a0_5 : Int) (a0_6 : Int) (a0_7 : Int) (a0_8 : Int) (a0_9 : Int) (a1 : Int) : Option ((List (S64))) := impl_State_of.l0 k a1 (([] : List (S64))) l0_2 (l0_2.length : Int) 0
theorem impl_State_of.mono_l : ∀ k,(∀ y0 y1 y2 y3 y4,LeO (impl_State_of.l0 k y0 y1 y2 y3 y4) (impl_State_of.l0 (k + 1) y0 y1 y2 y3 y4))
 | 0 => fun _ _ _ _ _ r h => by simp [impl_State_of.l0] at h
 | k + 1 => by
  have ih0 := impl_State_of.mono_l k
  ·intro y0 y1 y2 y3 y4
   unfold impl_State_of.l0
   repeat' first
   | (with_reducible first | exact ih0 .. | exact LeO.refl _ | exact LeO.none _ | refine LeO.ite ?_ ?_ | refine LeO.bind ?_ (fun _ => ?_))
   | exact LeO.none _ | refine LeO.ite ?_ ?_ | refine LeO.bind ?_ (fun _ => ?_)
theorem impl_State_of.mono : ∀ a0 a1 a2 a3 a4 a5 a6 a7 a8 a9 a10 k,LeO (impl_State_of.f k a0 a1 a2 a3 a4 a5 a6 a7 a8 a9 a10) (impl_State_of.f (k + 1) a0 a1 a2 a3 a4 a5 a6 a7 a8 a9 a10) := by
 intro a0 a1 a2 a3 a4 a5 a6 a7 a8 a9 a10 k
 have ih0 := impl_State_of.mono_l k
 unfold impl_State_of.f
 repeat' first
 | (with_reducible first | exact ih0 .. | exact LeO.refl _ | exact LeO.none _ | refine LeO.ite ?_ ?_ | refine LeO.bind ?_ (fun _ => ?_))
 | exact LeO.none _ | refine LeO.ite ?_ ?_ | refine LeO.bind ?_ (fun _ => ?_)
set_option maxHeartbeats 8000000 in
set_option maxRecDepth 100000 in
theorem impl_State_of.calls (k : Nat) (a0_0 : Int) (a0_1 : Int) (A0_2 : Option Addr) (c0_2 : Nat) (l0_2 : List (S64)) (A0_3 : Option Addr) (c0_3 : Nat) (l0_3 : List (S71)) (a0_4 : Int) (a0_5 : Int) (a0_6 : Int) (a0_7 : Int) (a0_8 : Int) (a0_9 : Int) (a1 : Int) (r : List (S64)) (w : World) (hr0_2 : Kd.C k64 w A0_2 l0_2.length l0_2) (hc0_2 : l0_2.length ≤ c0_2) (hr0_3 : Kd.C k71 w A0_3 l0_3.length l0_3) (hc0_3 : l0_3.length ≤ c0_3) (h : impl_State_of.f k a0_0 a0_1 l0_2 l0_3 a0_4 a0_5 a0_6 a0_7 a0_8 a0_9 a1 = some r) :
  Calls Tryz.prog 46 #[.agg #[.int .i64 a0_0,.int .i64 a0_1,.slice A0_2 l0_2.length c0_2,.slice A0_3 l0_3.length c0_3,.int .i64 a0_4,.int .i64 a0_5,.int .i64 a0_6,.int .i64 a0_7,.int .i64 a0_8,.int .i64 a0_9],.int .i64 a1] w fun e w' => ∃ v0_ : Value,e = .returned (v0_) ∧ Kd.R k64 64 w' w.heap.size (fun _ => True) v0_ r ∧ Below w.heap.size w w' := by
 have hu35 := Tryz.underlying35
 have hu64 := Tryz.underlying64
 have HR0_2 := Aside0.mk hr0_2
 have HC0_2 := Aside0.mk hc0_2
 clear hr0_2 hc0_2
 have HR0_3 := Aside0.mk hr0_3
 have HC0_3 := Aside0.mk hc0_3
 clear hr0_3 hc0_3
 have HB := Aside0.mk (Below.refl w.heap.size w)
 have H : (impl_State_of.l0 k a1 (([] : List (S64))) l0_2 (l0_2.length : Int) 0) = some r := h
 clear h
 obtain ⟨y297,hy297⟩ : ∃ y_ : List (S64),y_ = (([] : List (S64))) := ⟨_,rfl⟩
 replace H : (impl_State_of.l0 k a1 y297 l0_2 (l0_2.length : Int) 0) = some r := by first | (rw [hy297]; with_reducible exact H) | (have H2_ := (Option.bind_some _ _).symm.trans H; rw [hy297]; with_reducible exact H2_) | (have H2_ := (Option.bind_some _ _).symm.trans H; with_reducible exact H2_) | with_reducible exact H | (rw [hy297]; exact H) | exact H
 have Ny297 := Aside0.mk hy297
 clear hy297
 have H' := Aside0.mk H
 clear H
 go_enter Tryz.func46,Tryz.ntmps46
 go_wp2_with (first | ((with_reducible refine gate_dst (N:=2) rfl ?_); refine box_event ?hg (N:=2) ?hd (cs := #[.int .i64 a0_0,.int .i64 a0_1,.slice A0_2 l0_2.length c0_2,.slice A0_3 l0_3.length c0_3,.int .i64 a0_4,.int .i64 a0_5,.int .i64 a0_6,.int .i64 a0_7,.int .i64 a0_8,.int .i64 a0_9]) (t:=35) ?hr ?_; (case hd => rfl); (case hg => rfl); (case hr => first | (go_simp; done) | (go_simp; rfl)); intro gb296 hg w3 hbox hb; have n0_ := Aside0.mk (below_step bA hb); have n1_ := Aside0.mk (hbox); have n2_ := Aside0.mk ((gw hg : w.heap.size ≤ gb296)); have n3_ := Aside0.mk ((gw hg : w.heap.size ≤ gb296)); clear HB; have HB := n0_; have BK296 := n1_; have GW296 := n2_; have GE296 := n3_; clear n0_ n1_ n2_ n3_; clear hb hbox hg) | ((with_reducible refine gate_dst (N:=8) rfl ?_); refine Kd.R_lit k64 _ 64 ?hg (N:=8) ?hd (xs := ([] : List (S64))) (inner := []) (ok := fun _ => True) (okp := fun _ => True) ?hr ?hp (fun _ hk => hk) trivial (Below.refl _ _) (Nat.le_refl _) (by simp) ?_; (case hd => rfl); (case hg => rfl); (case hr => first | (go_simp; done) | (go_simp; rfl)); (case hp => exact (Reps.none _ _)); intro v298 w4 ho5 hb hg_ hnew_; clear hg_ hnew_; (first | rw [← Ny297.out] at ho5 | (simp only [Int.reduceToNat] at ho5; rw [← Ny297.out] at ho5)); have n0_ := Aside0.mk (Kd.R_lower ho5 (below_size bA)); have n1_ := Aside0.mk (bb BK296.out hb); have n2_ := Aside0.mk (below_step bA hb); clear BK296 HB; have HO299 := n0_; have BK296 := n1_; have HB := n2_; clear n0_ n1_ n2_; clear hb ho5; obtain ⟨hcz6_0,hcz6_1,hcz6_2,hcz6_3,hcz6_4,hcz6_5,hcz6_6,hcz6_7,hcz6_8,hcz6_9⟩ := cl10 BK296.out; obtain ⟨hfz6_0,hfz6_1,hfz6_2,hfz6_3,hfz6_4,hfz6_5,hfz6_6,hfz6_7,hfz6_8,hfz6_9⟩ := fz10 BK296.out))
 go_loopg [5,12] k (fun kq v5 v12 w' => ∃ (x5_1 : List (S64)) (x12_1 : Int),v12 = .int .i64 x12_1 ∧ Aside0 (impl_State_of.l0 kq a1 x5_1 l0_2 (l0_2.length : Int) x12_1 = some r) ∧ Aside0 (kq ≤ k) ∧ Aside0 (Kd.R k64 64 w' w.heap.size (fun _ => True) v5 x5_1) ∧ Aside0 (w'.heap[gb296]? = some (.cells #[.int .i64 a0_0,.int .i64 a0_1,(.slice A0_2 l0_2.length c0_2),(.slice A0_3 l0_3.length c0_3),.int .i64 a0_4,.int .i64 a0_5,.int .i64 a0_6,.int .i64 a0_7,.int .i64 a0_8,.int .i64 a0_9] 35 (0,0))) ∧ Aside0 (Below w.heap.size w w'))
 case atStart => exact ⟨(y297),(0),(by first | rfl | (simp; done) | (simp [*]; done)),H',⟨Nat.le_refl _⟩,⟨rA HO299.out⟩,⟨kA BK296.out⟩,⟨bA⟩⟩
 case round =>
  clear H'
  try clear p2
  try clear c4
  try clear hcz6_0 hcz6_1 hcz6_2 hcz6_3 hcz6_4 hcz6_5 hcz6_6 hcz6_7 hcz6_8 hcz6_9
  try clear hfz6_0 hfz6_1 hfz6_2 hfz6_3 hfz6_4 hfz6_5 hfz6_6 hfz6_7 hfz6_8 hfz6_9
  obtain ⟨x5_1,x12_1,rfl,HA,HK1,HO_5,BK296,HB⟩ := hrel
  cases gk with
  | zero => exact absurd HA.out (by simp [impl_State_of.l0])
  | succ k1 =>
   have H := HA.out
   clear HA
   simp only [impl_State_of.l0] at H
   by_cases c7 : x12_1 < (l0_2.length : Int)
   ·rw [if_pos c7] at H
    have c7b0 : decide (x12_1 < (l0_2.length : Int)) = true := decide_eq_true c7
    clear c7
    by_cases c8 : 0 ≤ x12_1
    ·rw [if_pos c8] at H
     have c8b0 : decide (0 ≤ x12_1) = true := decide_eq_true c8
     clear c8
     by_cases c9 : x12_1 < (l0_2.length : Int)
     ·rw [if_pos c9] at H
      have c9b0 : decide (x12_1 < (l0_2.length : Int)) = true := decide_eq_true c9
      clear c9
      by_cases c10 : ((rd_T64 l0_2 x12_1).f0) = a1
      ·rw [if_pos c10] at H
       have c10b0 : (((rd_T64 l0_2 x12_1).f0) == a1) = true := beq_iff_eq.mpr c10
       have c10b1 : (((rd_T64 l0_2 x12_1).f0) != a1) = false := bne_eq_false_iff_eq.mpr c10
       clear c10
       by_cases c11 : x5_1.length < 3518437208883
       ·rw [if_pos c11] at H
        have LMc11 := Aside0.mk c11
        clear c11
        obtain ⟨y302,hy302⟩ : ∃ y_ : List (S64),y_ = (x5_1 ++ [(⟨(rd_T64 l0_2 x12_1).f0,(rd_T64 l0_2 x12_1).f1,(rd_T64 l0_2 x12_1).f2,(rd_T64 l0_2 x12_1).f3⟩ : S64)]) := ⟨_,rfl⟩
        replace H : (impl_State_of.l0 k1 a1 y302 l0_2 (l0_2.length : Int) (wrap64 (x12_1 + 1))) = some r := by first | (rw [hy302]; with_reducible exact H) | (have H2_ := (Option.bind_some _ _).symm.trans H; rw [hy302]; with_reducible exact H2_) | (have H2_ := (Option.bind_some _ _).symm.trans H; with_reducible exact H2_) | with_reducible exact H | (rw [hy302]; exact H) | exact H
        have Ny302 := Aside0.mk hy302
        clear hy302
        have H' := Aside0.mk H
        clear H
        have p300 : 0 ≤ (x12_1 : Int) := od
        have q300 : x12_1 < (l0_2.length : Int) := od
        obtain ⟨ad300,e300,hx300_0,hx300_1,hx300_2,hx300_3⟩ := at_T64 HR0_2.out x12_1 p300 q300
        cases e300
        replace hx300_0 := cb HB.out hx300_0
        replace hx300_1 := cb HB.out hx300_1
        replace hx300_2 := cb HB.out hx300_2
        replace hx300_3 := cb HB.out hx300_3
        replace p300 := eq_true p300
        replace q300 := eq_true q300
        go_wp2_with (first | ((with_reducible refine gate_dst (N:=7) rfl ?_); refine box_event ?hg (N:=7) ?hd (cs := #[.int .i64 0,.int .i64 0,.int .i64 0,.string (⟨#[]⟩ : ByteArray)]) (t:=64) ?hr ?_; (case hd => rfl); (case hg => rfl); (case hr => first | (go_simp; done) | (go_simp; rfl)); intro gb301 hg w12 hbox hb; have n0_ := Aside0.mk (Kd.R_below (Kd.R_elderB (rA HO_5.out) gb301 (Nat.le_of_eq hg.symm)) hb); have n1_ := Aside0.mk (bb BK296.out hb); have n2_ := Aside0.mk (below_step bA hb); have n3_ := Aside0.mk (hbox); have n4_ := Aside0.mk ((gw hg : w.heap.size ≤ gb301)); have n5_ := Aside0.mk ((gw hg : w.heap.size ≤ gb301)); have n6_ := Aside0.mk ((nl hg BK296.out)); have n7_ := Aside0.mk ((ng hg BK296.out)); clear HO_5 BK296 HB; have HO_5 := n0_; have BK296 := n1_; have HB := n2_; have BK301 := n3_; have GW301 := n4_; have GE301 := n5_; have NB296_301 := n6_; have NB301_296 := n7_; clear n0_ n1_ n2_ n3_ n4_ n5_ n6_ n7_; clear hb hbox hg; have hnb13 := NB301_296.out; have hnc13 := NB296_301.out; obtain ⟨hcz14_0,hcz14_1,hcz14_2,hcz14_3⟩ := cl4 BK301.out; obtain ⟨hfz14_0,hfz14_1,hfz14_2,hfz14_3⟩ := fz4 BK301.out) | ((with_reducible refine gate_builtin (b:=.append) (xs := #[.tmp 20,.tmp 22]) rfl ?_); at_builtin; refine Kd.R_append k64 (w0 := w) w.heap.size rfl (.tmp 20) (.tmp 22) 32 64 (.agg #[(.int .i64 0),(.int .i64 0),(.int .i64 0),(.string ⟨#[]⟩)]) 40 rfl Tryz.underlying32 info64 rfl (by decide) (by omega) u5 x5_1 (⟨(rd_T64 l0_2 x12_1).f0,(rd_T64 l0_2 x12_1).f1,(rd_T64 l0_2 x12_1).f2,(rd_T64 l0_2 x12_1).f3⟩ : S64) [.int .i64 ((rd_T64 l0_2 x12_1).f0),.int .i64 ((rd_T64 l0_2 x12_1).f1),.int .i64 ((rd_T64 l0_2 x12_1).f2),.string ((rd_T64 l0_2 x12_1).f3)] (fun k_ => k_ ≠ gb301) (fun _ => False) rfl (by first | (go_simp; done) | (go_simp; rfl)) ?aP (fun _ hk => hk.elim) ?aF ?aO ?aB ?aS ?aL ?_; (case aP => exact k64_mkM _ _ _ (⟨(rd_T64 l0_2 x12_1).f0,(rd_T64 l0_2 x12_1).f1,(rd_T64 l0_2 x12_1).f2,(rd_T64 l0_2 x12_1).f3⟩ : S64)); (case aB => exact bA); (case aF => exact (fun k_ hk => Kd.freshB (g:=gb301) (o:=.cells #[.int .i64 ((rd_T64 l0_2 x12_1).f0),.int .i64 ((rd_T64 l0_2 x12_1).f1),.int .i64 ((rd_T64 l0_2 x12_1).f2),.string ((rd_T64 l0_2 x12_1).f3)] 64 (0,0)) (by (with_reducible repeat (first | refine blk_drewN ?_ _ | refine blk_drew ?_ | refine blk_alloc ?_ _)); refine blk_put (cs := #[.int .i64 ((rd_T64 l0_2 x12_1).f0),.int .i64 ((rd_T64 l0_2 x12_1).f1),.int .i64 ((rd_T64 l0_2 x12_1).f2),.string (⟨#[]⟩ : ByteArray)]) ?_ 3 _ rfl; (with_reducible repeat (first | refine blk_drewN ?_ _ | refine blk_drew ?_ | refine blk_alloc ?_ _)); refine blk_put (cs := #[.int .i64 ((rd_T64 l0_2 x12_1).f0),.int .i64 ((rd_T64 l0_2 x12_1).f1),.int .i64 0,.string (⟨#[]⟩ : ByteArray)]) ?_ 2 _ rfl; (with_reducible repeat (first | refine blk_drewN ?_ _ | refine blk_drew ?_ | refine blk_alloc ?_ _)); refine blk_put (cs := #[.int .i64 ((rd_T64 l0_2 x12_1).f0),.int .i64 0,.int .i64 0,.string (⟨#[]⟩ : ByteArray)]) ?_ 1 _ rfl; (with_reducible repeat (first | refine blk_drewN ?_ _ | refine blk_drew ?_ | refine blk_alloc ?_ _)); refine blk_put (cs := #[.int .i64 0,.int .i64 0,.int .i64 0,.string (⟨#[]⟩ : ByteArray)]) ?_ 0 _ rfl; (with_reducible repeat (first | refine blk_drewN ?_ _ | refine blk_drew ?_ | refine blk_alloc ?_ _)); exact BK301.out) k_ hk)); (case aO => exact (by (with_reducible repeat (first | apply Kd.R_alloc | apply Kd.R_drewN | apply Kd.R_drew)); exact Kd.R_mono (Kd.R_far (p:=⟨gb301,3,none⟩) (Kd.R_far (p:=⟨gb301,2,none⟩) (Kd.R_far (p:=⟨gb301,1,none⟩) (Kd.R_far (p:=⟨gb301,0,none⟩) (Kd.R_mono HO_5.out (fun k_ hk => (⟨hk,hk.2⟩ : _ ∧ k_ ≠ gb301))) (fun _ hk => hk.2) (.int .i64 ((rd_T64 l0_2 x12_1).f0))) (fun _ hk => hk.2) (.int .i64 ((rd_T64 l0_2 x12_1).f1))) (fun _ hk => hk.2) (.int .i64 ((rd_T64 l0_2 x12_1).f2))) (fun _ hk => hk.2) (.string ((rd_T64 l0_2 x12_1).f3))) (fun _ hk => hk.1.2))); (case aS => exact (below_size bA)); (case aL => have := LMc11.out; omega); intro v303 w15 ho hb hg hat; rw [← Ny302.out] at ho; have n0_ := Aside0.mk (bh BK296.out hg (Kd.R_ne HO_5.out BK296.out (by decide))); have n1_ := Aside0.mk (blk_grown (g:=gb301) (o:=.cells #[.int .i64 ((rd_T64 l0_2 x12_1).f0),.int .i64 ((rd_T64 l0_2 x12_1).f1),.int .i64 ((rd_T64 l0_2 x12_1).f2),.string ((rd_T64 l0_2 x12_1).f3)] 64 (0,0)) (by (with_reducible repeat (first | refine blk_drewN ?_ _ | refine blk_drew ?_ | refine blk_alloc ?_ _)); refine blk_put (cs := #[.int .i64 ((rd_T64 l0_2 x12_1).f0),.int .i64 ((rd_T64 l0_2 x12_1).f1),.int .i64 ((rd_T64 l0_2 x12_1).f2),.string (⟨#[]⟩ : ByteArray)]) ?_ 3 _ rfl; (with_reducible repeat (first | refine blk_drewN ?_ _ | refine blk_drew ?_ | refine blk_alloc ?_ _)); refine blk_put (cs := #[.int .i64 ((rd_T64 l0_2 x12_1).f0),.int .i64 ((rd_T64 l0_2 x12_1).f1),.int .i64 0,.string (⟨#[]⟩ : ByteArray)]) ?_ 2 _ rfl; (with_reducible repeat (first | refine blk_drewN ?_ _ | refine blk_drew ?_ | refine blk_alloc ?_ _)); refine blk_put (cs := #[.int .i64 ((rd_T64 l0_2 x12_1).f0),.int .i64 0,.int .i64 0,.string (⟨#[]⟩ : ByteArray)]) ?_ 1 _ rfl; (with_reducible repeat (first | refine blk_drewN ?_ _ | refine blk_drew ?_ | refine blk_alloc ?_ _)); refine blk_put (cs := #[.int .i64 0,.int .i64 0,.int .i64 0,.string (⟨#[]⟩ : ByteArray)]) ?_ 0 _ rfl; (with_reducible repeat (first | refine blk_drewN ?_ _ | refine blk_drew ?_ | refine blk_alloc ?_ _)); exact BK301.out) hg (Kd.R_away HO_5.out (fun _ hk => hk.2))); have n2_ := Aside0.mk (hb); have n3_ := Aside0.mk (ho); clear BK296 BK301 HB HO_5; have BK296 := n0_; have BK301 := n1_; have HB := n2_; have HO304 := n3_; clear n0_ n1_ n2_ n3_; clear ho hb hg hat))
        go_roundg k1
        case measure => have := HK1.out; omega
        case rel => exact ⟨(y302),(wrap64 (x12_1 + 1)),(by first | rfl | (simp; done) | (simp [*]; done)),H',⟨by have := HK1.out; omega⟩,⟨by (with_reducible repeat (first | apply Kd.R_alloc | apply Kd.R_drewN | apply Kd.R_drew)); exact Kd.R_mono HO304.out (fun _ hk => trivial)⟩,⟨kA BK296.out⟩,⟨bA⟩⟩
       ·rw [if_neg c11] at H
        exact absurd H (by simp)
      ·rw [if_neg c10] at H
       have c10b0 : (((rd_T64 l0_2 x12_1).f0) == a1) = false := beq_eq_false_iff_ne.mpr c10
       have c10b1 : (((rd_T64 l0_2 x12_1).f0) != a1) = true := bne_iff_ne.mpr c10
       have H' := Aside0.mk H
       clear H
       have p300 : 0 ≤ (x12_1 : Int) := od
       have q300 : x12_1 < (l0_2.length : Int) := od
       obtain ⟨ad300,e300,hx300_0,hx300_1,hx300_2,hx300_3⟩ := at_T64 HR0_2.out x12_1 p300 q300
       cases e300
       replace hx300_0 := cb HB.out hx300_0
       replace hx300_1 := cb HB.out hx300_1
       replace hx300_2 := cb HB.out hx300_2
       replace hx300_3 := cb HB.out hx300_3
       replace p300 := eq_true p300
       replace q300 := eq_true q300
       go_wp2_with (first | ((with_reducible refine gate_dst (N:=7) rfl ?_); refine box_event ?hg (N:=7) ?hd (cs := #[.int .i64 0,.int .i64 0,.int .i64 0,.string (⟨#[]⟩ : ByteArray)]) (t:=64) ?hr ?_; (case hd => rfl); (case hg => rfl); (case hr => first | (go_simp; done) | (go_simp; rfl)); intro gb301 hg w16 hbox hb; have n0_ := Aside0.mk (Kd.R_below (Kd.R_elderB (rA HO_5.out) gb301 (Nat.le_of_eq hg.symm)) hb); have n1_ := Aside0.mk (bb BK296.out hb); have n2_ := Aside0.mk (below_step bA hb); have n3_ := Aside0.mk (hbox); have n4_ := Aside0.mk ((gw hg : w.heap.size ≤ gb301)); have n5_ := Aside0.mk ((gw hg : w.heap.size ≤ gb301)); have n6_ := Aside0.mk ((nl hg BK296.out)); have n7_ := Aside0.mk ((ng hg BK296.out)); clear HO_5 BK296 HB; have HO_5 := n0_; have BK296 := n1_; have HB := n2_; have BK301 := n3_; have GW301 := n4_; have GE301 := n5_; have NB296_301 := n6_; have NB301_296 := n7_; clear n0_ n1_ n2_ n3_ n4_ n5_ n6_ n7_; clear hb hbox hg; have hnb17 := NB301_296.out; have hnc17 := NB296_301.out; obtain ⟨hcz18_0,hcz18_1,hcz18_2,hcz18_3⟩ := cl4 BK301.out; obtain ⟨hfz18_0,hfz18_1,hfz18_2,hfz18_3⟩ := fz4 BK301.out))
       go_roundg k1
       case measure => have := HK1.out; omega
       case rel => exact ⟨(x5_1),(wrap64 (x12_1 + 1)),(by first | rfl | (simp; done) | (simp [*]; done)),H',⟨by have := HK1.out; omega⟩,⟨by (with_reducible repeat (first | apply Kd.R_alloc | apply Kd.R_drewN | apply Kd.R_drew)); exact Kd.R_mono (Kd.R_far (p:=⟨gb301,3,none⟩) (Kd.R_far (p:=⟨gb301,2,none⟩) (Kd.R_far (p:=⟨gb301,1,none⟩) (Kd.R_far (p:=⟨gb301,0,none⟩) (Kd.R_mono HO_5.out (fun k_ hk => (⟨hk,hk.2⟩ : _ ∧ k_ ≠ gb301))) (fun _ hk => hk.2) (.int .i64 ((rd_T64 l0_2 x12_1).f0))) (fun _ hk => hk.2) (.int .i64 ((rd_T64 l0_2 x12_1).f1))) (fun _ hk => hk.2) (.int .i64 ((rd_T64 l0_2 x12_1).f2))) (fun _ hk => hk.2) (.string ((rd_T64 l0_2 x12_1).f3))) (fun _ hk => trivial)⟩,⟨kF BK296.out⟩,⟨bA⟩⟩
     ·rw [if_neg c9] at H
      exact absurd H (by simp)
    ·rw [if_neg c8] at H
     exact absurd H (by simp)
   ·rw [if_neg c7] at H
    have c7b0 : decide (x12_1 < (l0_2.length : Int)) = false := decide_eq_false c7
    clear c7
    obtain rfl := Option.some.inj H
    go_wp2
    go_ret
    exact ⟨_,by first | rfl | (simp only [i64_w,i32_w] <;> rfl) | (simp [errW_none,errW_some] <;> rfl) | (simp [*,errW_none,errW_some] <;> rfl),rA HO_5.out,bA⟩

end Go.Proofs.YtfondhlknkhmmaaGreatDoor.XFnExactOrphansOf
