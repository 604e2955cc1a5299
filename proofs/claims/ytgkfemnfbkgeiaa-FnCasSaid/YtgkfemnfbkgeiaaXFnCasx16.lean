-- Printed by this session's own program wip/tools/xprint.py, which widens the kit's print. Not trusted: Lean checks it.
import Derived.Test.YtgkfemnfbkgeiaaXFnCasx0
import Derived.Test.YtgkfemnfbkgeiaaXFnCasx6
import Derived.Test.YtgkfemnfbkgeiaaXFnCasx10
import Derived.Test.YtgkfemnfbkgeiaaXFnCasx11
import Derived.Test.YtgkfemnfbkgeiaaXFnCasx13
import Derived.Test.YtgkfemnfbkgeiaaXFnCasx14
import Derived.Test.YtgkfemnfbkgeiaaXFnCasx15
namespace Go.Proofs.Ytgkfemnfbkgeiaa.XFnCas
open List (setIfInBounds_toArray set_cons_zero set_cons_succ)
open Go.RowKit Go.Proofs.YtgkfemnfbkgeiaaW.PrintWords Go.Proofs.YtgkfemnfbkgeiaaW.PrintLast Go.Proofs.YtgkfemnfbkgeiaaW.PrintMore
attribute [local go_sem] max2_int min2_int max_two min_two max_three min_three max_four min_four   -- for this text's walks alone
set_option linter.unusedVariables false
set_option linter.unusedSimpArgs false

/-! ### laws_FnCas: function 5 -/
def laws_FnCas.j0 : Nat → List Int → List Int → Bool → Option (Bool)
 | 0,_,_,_ => none
 | k + 1,x0,x1,x33 => if x33 = true then (some true) else ((spec_PlainStore.f k x0).bind fun bt496 => ((impl_PutAbsent.f k bt496.1 bt496.2 (⟨#[109,47,49]⟩ : ByteArray) (⟨#[97]⟩ : ByteArray)).bind fun bt501 => ((spec_TextOf.f k x1 3).bind fun t508 => ((impl_PutVersion.f k bt501.1 bt501.2.1 (⟨#[109,47,49]⟩ : ByteArray) bt501.2.2.1 t508).bind fun bt509 => ((impl_PutVersion.f k bt509.1 bt509.2.1 (⟨#[109,47,49]⟩ : ByteArray) bt501.2.2.1 (⟨#[99]⟩ : ByteArray)).bind fun bt516 => ((impl_DeleteVersion.f k bt509.1 bt509.2.1 (⟨#[109,47,49]⟩ : ByteArray) bt501.2.2.1).bind fun bt523 => ((impl_PutAbsent.f k bt509.1 bt509.2.1 (⟨#[109,47,49]⟩ : ByteArray) (⟨#[100]⟩ : ByteArray)).bind fun bt529 => ((impl_GetObject.f k bt509.1 bt509.2.1 (⟨#[109,47,49]⟩ : ByteArray)).bind fun bt536 => ((impl_PutVersion.f k bt509.1 bt509.2.1 (⟨#[109,47,50]⟩ : ByteArray) bt509.2.2.1 (⟨#[101]⟩ : ByteArray)).bind fun bt539 => (if bt501.2.2.2 = 0 then (if bt509.2.2.2 = 0 then (if bt509.2.2.1 = bt501.2.2.1 then (none) else (if bt516.2.2.2 = 10 then ((laws_sameStore.f k bt516.1 bt516.2.1 bt509.1 bt509.2.1).bind fun t546 => (if t546 = true then (if bt523.2.2 = 10 then ((laws_sameStore.f k bt523.1 bt523.2.1 bt509.1 bt509.2.1).bind fun t547 => (if t547 = true then (if bt529.2.2.2 = 9 then (if bt536.2.2 = 0 then ((spec_TextOf.f k x1 3).bind fun t548 => (if bt536.1.toList = t548.toList then (if bt536.2.1 = bt509.2.2.1 then (some (bt539.2.2.2 == 5)) else (none)) else (none))) else (none)) else (none)) else (none))) else (none)) else (none))) else (none))) else (none)) else (none)))))))))))
def laws_FnCas.f (k : Nat) (l0 : List Int) (l1 : List Int) : Option (Bool) := if (l0.length : Int) > 1048576 then (laws_FnCas.j0 k l0 l1 true) else (laws_FnCas.j0 k l0 l1 (decide ((l1.length : Int) > 1048576)))
theorem laws_FnCas.mono_l : ∀ k,(∀ y0 y1 y2,LeO (laws_FnCas.j0 k y0 y1 y2) (laws_FnCas.j0 (k + 1) y0 y1 y2))
 | 0 => fun _ _ _ r h => by simp [laws_FnCas.j0] at h
 | k + 1 => by
  have ih0 := laws_FnCas.mono_l k
  ·intro y0 y1 y2
   unfold laws_FnCas.j0
   repeat' first
   | (with_reducible first | exact ih0 .. | exact impl_DeleteVersion.mono .. | exact impl_GetObject.mono .. | exact impl_PutAbsent.mono .. | exact impl_PutVersion.mono .. | exact laws_sameStore.mono .. | exact spec_PlainStore.mono .. | exact spec_TextOf.mono .. | exact LeO.refl _ | exact LeO.none _ | refine LeO.ite ?_ ?_ | refine LeO.bind ?_ (fun _ => ?_))
   | exact LeO.none _ | refine LeO.ite ?_ ?_ | refine LeO.bind ?_ (fun _ => ?_)
theorem laws_FnCas.mono : ∀ a0 a1 k,LeO (laws_FnCas.f k a0 a1) (laws_FnCas.f (k + 1) a0 a1) := by
 intro a0 a1 k
 have ih0 := laws_FnCas.mono_l k
 unfold laws_FnCas.f
 repeat' first
 | (with_reducible first | exact ih0 .. | exact impl_DeleteVersion.mono .. | exact impl_GetObject.mono .. | exact impl_PutAbsent.mono .. | exact impl_PutVersion.mono .. | exact laws_sameStore.mono .. | exact spec_PlainStore.mono .. | exact spec_TextOf.mono .. | exact LeO.refl _ | exact LeO.none _ | refine LeO.ite ?_ ?_ | refine LeO.bind ?_ (fun _ => ?_))
 | exact LeO.none _ | refine LeO.ite ?_ ?_ | refine LeO.bind ?_ (fun _ => ?_)
def laws_FnCas.T5 : Bool × List (List Nat × List Nat) := (true,[([],[]),([],[]),([],[]),([2],[2]),([0,1,3,3],[0,1,3]),([4],[4]),([5],[5]),([5],[5]),([5],[5]),([],[]),([9,6,4,0,1,2,3,4,5,6,9],[6,9]),([7,10,0,1,2,3,4,5,6,7,9,10],[7]),([8,11,0,1,2,3,4,5,6,7,8,9,10,11],[8])])
def laws_FnCas.B5 : List Nat := [0,0,0,4,15,31,63,63,63,0,639,1791,4095]
theorem laws_FnCas.tab5 : rtab .any (opsOf Try.f5 5) = laws_FnCas.T5 := by kernel_rfl
theorem laws_FnCas.bits5 : waitsOk laws_FnCas.T5.2 laws_FnCas.B5 = true := by kernel_rfl
set_option maxHeartbeats 8000000 in
set_option maxRecDepth 100000 in
theorem laws_FnCas.calls (k : Nat) (A0 : Option Addr) (c0 : Nat) (l0 : List Int) (A1 : Option Addr) (c1 : Nat) (l1 : List Int) (r : Bool) (w : World) (hr0 : Kd.C (Kd.int .u8) w A0 l0.length l0) (hc0 : l0.length ≤ c0) (hr1 : Kd.C (Kd.int .u8) w A1 l1.length l1) (hc1 : l1.length ≤ c1) (h : laws_FnCas.f k l0 l1 = some r) :
  Calls Try.prog 5 #[.slice A0 l0.length c0,.slice A1 l1.length c1] w fun e w' => e = .returned (.bool r) ∧ Below w.heap.size w w' := by
 have hu25 := Try.underlying25
 have HR0 := Aside0.mk hr0
 have HC0 := Aside0.mk hc0
 clear hr0 hc0
 have HR1 := Aside0.mk hr1
 have HC1 := Aside0.mk hc1
 clear hr1 hc1
 have HB := Aside0.mk (Below.refl w.heap.size w)
 have H : (if (l0.length : Int) > 1048576 then (laws_FnCas.j0 k l0 l1 true) else (laws_FnCas.j0 k l0 l1 (decide ((l1.length : Int) > 1048576)))) = some r := h
 clear h
 have HC3 := Aside0.mk H
 clear H
 go_enter Try.func5,Try.ntmps5
 go_upto_region 1 with (fail)
 go_cut [33] (fun v33 wc => ∃ (kq : Nat) (x33_2 : Bool),v33 = .bool x33_2 ∧ Aside0 (laws_FnCas.j0 kq l0 l1 x33_2 = some r) ∧ Aside0 (kq ≤ k) ∧ Aside0 (Below w.heap.size w wc))
 case first =>
  have H := HC3.out
  clear HC3
  by_cases c4 : (l0.length : Int) > 1048576
  ·rw [if_pos c4] at H
   have c4b0 : decide (1048576 < (l0.length : Int)) = true := decide_eq_true c4
   have c4b1 : decide (1048576 < l0.length) = true := decide_eq_true (by omega)
   clear c4
   (first | rw [c4b0] | (simp only [i64_w,i32_w]; rw [c4b0]) | skip)
   have H' := Aside0.mk H
   clear H
   go_wp2
   go_meet
   case rel => exact ⟨_,(true),(by first | rfl | (simp; done) | (simp [*]; done)),H',⟨by first | omega | exact Nat.le_refl _⟩,⟨bA⟩⟩
  ·rw [if_neg c4] at H
   have c4b0 : decide (1048576 < (l0.length : Int)) = false := decide_eq_false c4
   have c4b1 : decide (1048576 < l0.length) = false := decide_eq_false (by omega)
   clear c4
   (first | rw [c4b0] | (simp only [i64_w,i32_w]; rw [c4b0]) | skip)
   have H' := Aside0.mk H
   clear H
   go_wp2
   go_meet
   case rel => exact ⟨_,(decide ((l1.length : Int) > 1048576)),(by first | rfl | (simp; done) | (simp [*]; done)),H',⟨by first | omega | exact Nat.le_refl _⟩,⟨bA⟩⟩
 case rest =>
  clear HC3
  try clear c1
  try clear p2
  try clear c4
  try clear c4b0
  try clear c4b1
  obtain ⟨kq,x33_2,rfl,HA,HJ2,HB⟩ := hcut
  cases kq with
  | zero => exact absurd HA.out (by simp [laws_FnCas.j0])
  | succ kj2 =>
   have H := HA.out
   clear HA
   simp only [laws_FnCas.j0] at H
   by_cases c5 : x33_2 = true
   ·subst c5
    rw [if_pos rfl] at H
    obtain rfl := Option.some.inj H
    go_wp2
    go_ret
    exact ⟨by first | rfl | (simp [errW_none,errW_some] <;> rfl) | (simp [*,errW_none,errW_some] <;> rfl),bA⟩
   ·replace c5 := Bool.eq_false_iff.mpr c5
    subst c5
    rw [if_neg (show ¬ (false = true) by decide)] at H
    replace H := Option.bind_eq_some_iff.mp H
    obtain ⟨⟨t496,t499⟩,A60,H⟩ := H
    try dsimp only at H
    have A6 := Aside0.mk A60
    clear A60
    replace H := Option.bind_eq_some_iff.mp H
    obtain ⟨⟨t501,t504,t505,t506⟩,A70,H⟩ := H
    try dsimp only at H
    have A7 := Aside0.mk A70
    clear A70
    replace H := Option.bind_eq_some_iff.mp H
    obtain ⟨t508,A80,H⟩ := H
    try dsimp only at H
    have A8 := Aside0.mk A80
    clear A80
    replace H := Option.bind_eq_some_iff.mp H
    obtain ⟨⟨t509,t512,t513,t514⟩,A90,H⟩ := H
    try dsimp only at H
    have A9 := Aside0.mk A90
    clear A90
    replace H := Option.bind_eq_some_iff.mp H
    obtain ⟨⟨t516,t519,t520,t521⟩,A100,H⟩ := H
    try dsimp only at H
    have A10 := Aside0.mk A100
    clear A100
    replace H := Option.bind_eq_some_iff.mp H
    obtain ⟨⟨t523,t526,t527⟩,A110,H⟩ := H
    try dsimp only at H
    have A11 := Aside0.mk A110
    clear A110
    replace H := Option.bind_eq_some_iff.mp H
    obtain ⟨⟨t529,t532,t533,t534⟩,A120,H⟩ := H
    try dsimp only at H
    have A12 := Aside0.mk A120
    clear A120
    replace H := Option.bind_eq_some_iff.mp H
    obtain ⟨⟨t536,t537,t538⟩,A130,H⟩ := H
    try dsimp only at H
    have A13 := Aside0.mk A130
    clear A130
    replace H := Option.bind_eq_some_iff.mp H
    obtain ⟨⟨t539,t542,t543,t544⟩,A140,H⟩ := H
    try dsimp only at H
    have A14 := Aside0.mk A140
    clear A140
    by_cases c15 : t506 = 0
    ·rw [if_pos c15] at H
     have c15b0 : (t506 == 0) = true := beq_iff_eq.mpr c15
     have c15b1 : (t506 != 0) = false := bne_eq_false_iff_eq.mpr c15
     clear c15
     by_cases c16 : t514 = 0
     ·rw [if_pos c16] at H
      have c16b0 : (t514 == 0) = true := beq_iff_eq.mpr c16
      have c16b1 : (t514 != 0) = false := bne_eq_false_iff_eq.mpr c16
      clear c16
      by_cases c17 : t513 = t505
      ·rw [if_pos c17] at H
       exact absurd H (by simp)
      ·rw [if_neg c17] at H
       have c17b0 : (t513 == t505) = false := beq_eq_false_iff_ne.mpr c17
       have c17b1 : (t513 != t505) = true := bne_iff_ne.mpr c17
       by_cases c18 : t521 = 10
       ·rw [if_pos c18] at H
        have c18b0 : (t521 == 10) = true := beq_iff_eq.mpr c18
        have c18b1 : (t521 != 10) = false := bne_eq_false_iff_eq.mpr c18
        clear c18
        replace H := Option.bind_eq_some_iff.mp H
        obtain ⟨t546,A190,H⟩ := H
        try dsimp only at H
        have A19 := Aside0.mk A190
        clear A190
        by_cases c20 : t546 = true
        ·subst c20
         rw [if_pos rfl] at H
         by_cases c21 : t527 = 10
         ·rw [if_pos c21] at H
          have c21b0 : (t527 == 10) = true := beq_iff_eq.mpr c21
          have c21b1 : (t527 != 10) = false := bne_eq_false_iff_eq.mpr c21
          clear c21
          replace H := Option.bind_eq_some_iff.mp H
          obtain ⟨t547,A220,H⟩ := H
          try dsimp only at H
          have A22 := Aside0.mk A220
          clear A220
          by_cases c23 : t547 = true
          ·subst c23
           rw [if_pos rfl] at H
           by_cases c24 : t534 = 9
           ·rw [if_pos c24] at H
            have c24b0 : (t534 == 9) = true := beq_iff_eq.mpr c24
            have c24b1 : (t534 != 9) = false := bne_eq_false_iff_eq.mpr c24
            clear c24
            by_cases c25 : t538 = 0
            ·rw [if_pos c25] at H
             have c25b0 : (t538 == 0) = true := beq_iff_eq.mpr c25
             have c25b1 : (t538 != 0) = false := bne_eq_false_iff_eq.mpr c25
             clear c25
             replace H := Option.bind_eq_some_iff.mp H
             obtain ⟨t548,A260,H⟩ := H
             try dsimp only at H
             have A26 := Aside0.mk A260
             clear A260
             by_cases c27 : t536.toList = t548.toList
             ·rw [if_pos c27] at H
              have c27b0 : (t536.toList == t548.toList) = true := beq_iff_eq.mpr c27
              have c27b1 : (t536.toList != t548.toList) = false := bne_eq_false_iff_eq.mpr c27
              clear c27
              by_cases c28 : t537 = t513
              ·rw [if_pos c28] at H
               have c28b0 : (t537 == t513) = true := beq_iff_eq.mpr c28
               have c28b1 : (t537 != t513) = false := bne_eq_false_iff_eq.mpr c28
               clear c28
               obtain rfl := Option.some.inj H
               try go_wp2_with (first | ((with_reducible refine gate_callee (f:=6) rfl ?_); refine goesL_ (some 35) rfl rfl Try.func6 (by kernel_rfl) rfl #[.slice A0 l0.length c0] rfl mA ?_; (with_reducible refine (spec_PlainStore.calls kj2 _ _ l0 t496 t499 _ ?side1 ?side2 A6.out).mono ?_); (case side1 => exact sC HR0.out); (case side2 => exact HC0.out); rintro e w29 ⟨v497,rfl,ho0,hb⟩; refine ⟨_,rfl,?_⟩; have HO498 := Aside0.mk (Kd.R_lower ho0 (below_size bA)); replace HB := Aside0.mk (below_step bA hb); clear hb; (try clear ho0)) | ((with_reducible refine gate_dst (N:=5) rfl ?_); (try (refine gate_guard (by rfl) ?_; dsimp only)); refine box_event ?hg (N:=5) ?hd (cs := #[.slice none 0 0,.int .i64 0]) (t:=25) ?hr ?_; (case hd => rfl); (case hg => rfl); (case hr => first | (go_simp; done) | (go_simp; rfl)); intro gb500 hg w30 hbox hb; replace HO498 := Aside0.mk (Kd.R_below (rA HO498.out) hb); have BK500 := Aside0.mk (hbox); have GW500 := Aside0.mk ((gw hg : w.heap.size ≤ gb500)); have GE500 := Aside0.mk ((gw hg : w.heap.size ≤ gb500)); replace HB := Aside0.mk (below_step bA hb); clear hb hbox hg; obtain ⟨Ao31,co31,eo31⟩ := Kd.R_slice HO498.out; subst eo31; obtain ⟨hcz32_0,hcz32_1⟩ := cl2 BK500.out; obtain ⟨hfz32_0,hfz32_1⟩ := fz2 BK500.out) | ((with_reducible refine gate_callee (f:=12) rfl ?_); refine goesL_ (some 38) rfl rfl Try.func12 (by kernel_rfl) rfl #[.agg #[.slice Ao31 t496.length co31,.int .i64 t499],.string (⟨#[109,47,49]⟩ : ByteArray),.string (⟨#[97]⟩ : ByteArray)] rfl mA ?_; (with_reducible refine (impl_PutAbsent.calls kj2 _ _ t496 t499 (⟨#[109,47,49]⟩ : ByteArray) (⟨#[97]⟩ : ByteArray) t501 t504 t505 t506 _ ?side1 ?side2 A7.out).mono ?_); (case side1 => refine (Kd.R_reads' (e:=32) (base := w.heap.size) (ok := fun k_ => True) (n:=t496.length) (c:=co31) ?_).2.2; exact (by (with_reducible repeat (first | apply Kd.R_alloc | apply Kd.R_drewN | apply Kd.R_drew)); exact (Kd.R_mono (Kd.R_far (p:=⟨gb500,1,none⟩) (Kd.R_far (p:=⟨gb500,0,none⟩) (Kd.R_types HO498.out BK500.out (by decide)) (fun _ hk => hk.2) (.slice Ao31 t496.length co31)) (fun _ hk => hk.2) (.int .i64 t499)) (fun _ h_ => h_.1)))); (case side2 => exact (Kd.R_reads' HO498.out).2.1); rintro e w33 ⟨v502,rfl,ho0,hb⟩; refine ⟨_,rfl,?_⟩; have HO503 := Aside0.mk (Kd.R_lower (Kd.R_new' ho0 (Kd.R_lt (by (with_reducible repeat (first | apply Kd.R_alloc | apply Kd.R_drewN | apply Kd.R_drew)); exact (Kd.R_mono (Kd.R_far (p:=⟨gb500,1,none⟩) (Kd.R_far (p:=⟨gb500,0,none⟩) (Kd.R_types HO498.out BK500.out (by decide)) (fun _ hk => hk.2) (.slice Ao31 t496.length co31)) (fun _ hk => hk.2) (.int .i64 t499)) (fun _ h_ => h_.1))))) (below_size bA)); replace HO498 := Aside0.mk (Kd.R_elder' (by (with_reducible repeat (first | apply Kd.R_alloc | apply Kd.R_drewN | apply Kd.R_drew)); exact (Kd.R_mono (Kd.R_far (p:=⟨gb500,1,none⟩) (Kd.R_far (p:=⟨gb500,0,none⟩) (Kd.R_types HO498.out BK500.out (by decide)) (fun _ hk => hk.2) (.slice Ao31 t496.length co31)) (fun _ hk => hk.2) (.int .i64 t499)) (fun _ h_ => h_.1))) (Kd.R_base ho0) hb); replace BK500 := Aside0.mk (blk_below (g:=gb500) (o:=.cells #[.slice Ao31 t496.length co31,.int .i64 t499] 25 (0,0)) (by (with_reducible repeat (first | refine blk_drewN ?_ _ | refine blk_drew ?_ | refine blk_alloc ?_ _)); apply blkp2; (with_reducible repeat (first | refine blk_drewN ?_ _ | refine blk_drew ?_ | refine blk_alloc ?_ _)); exact BK500.out) hb); replace HB := Aside0.mk (below_step bA hb); clear hb; (try clear ho0)) | ((with_reducible refine gate_dst (N:=6) rfl ?_); (try (refine gate_guard (by rfl) ?_; dsimp only)); refine box_event ?hg (N:=6) ?hd (cs := #[.slice none 0 0,.int .i64 0]) (t:=25) ?hr ?_; (case hd => rfl); (case hg => rfl); (case hr => first | (go_simp; done) | (go_simp; rfl)); intro gb507 hg w34 hbox hb; replace HO498 := Aside0.mk (Kd.R_below (rA HO498.out) hb); replace HO503 := Aside0.mk (Kd.R_below (rA HO503.out) hb); have BK507 := Aside0.mk (hbox); have GW507 := Aside0.mk ((gw hg : w.heap.size ≤ gb507)); have GE507 := Aside0.mk ((gw hg : w.heap.size ≤ gb507)); replace HB := Aside0.mk (below_step bA hb); have NB500_507 := Aside0.mk ((nl hg BK500.out)); have NB507_500 := Aside0.mk ((ng hg BK500.out)); replace BK500 := Aside0.mk (bb BK500.out hb); clear hb hbox hg; obtain ⟨Ao35,co35,eo35⟩ := Kd.R_slice HO503.out; subst eo35; have hnb36 := NB507_500.out; have hnc36 := NB500_507.out; obtain ⟨hcz37_0,hcz37_1⟩ := cl2 BK507.out; obtain ⟨hfz37_0,hfz37_1⟩ := fz2 BK507.out))
               have n0_ : Aside0 (Kd.R k32 32 ((w34.setCell ⟨gb507,0,none⟩ (.slice Ao35 t501.length co35)).setCell ⟨gb507,1,none⟩ (.int .i64 t504)) w.heap.size (fun k_ => some k_ ≠ (.slice Ao35 t501.length co35 : Value).ownBlock) (.slice Ao31 t496.length co31) t496) := ⟨by (with_reducible repeat (first | apply Kd.R_alloc | apply Kd.R_drewN | apply Kd.R_drew)); exact Kd.R_mono (Kd.R_far (p:=⟨gb507,1,none⟩) (Kd.R_far (p:=⟨gb507,0,none⟩) (Kd.R_types HO498.out BK507.out (by decide)) (fun _ hk => hk.2) (.slice Ao35 t501.length co35)) (fun _ hk => hk.2) (.int .i64 t504)) (fun _ hk => by first | exact hk.1.2 | exact hk.1)⟩
               have n1_ : Aside0 (Kd.R k32 32 ((w34.setCell ⟨gb507,0,none⟩ (.slice Ao35 t501.length co35)).setCell ⟨gb507,1,none⟩ (.int .i64 t504)) w.heap.size (fun k_ => some k_ ≠ (.slice Ao31 t496.length co31 : Value).ownBlock) (.slice Ao35 t501.length co35) t501) := ⟨by (with_reducible repeat (first | apply Kd.R_alloc | apply Kd.R_drewN | apply Kd.R_drew)); exact Kd.R_mono (Kd.R_far (p:=⟨gb507,1,none⟩) (Kd.R_far (p:=⟨gb507,0,none⟩) (Kd.R_types HO503.out BK507.out (by decide)) (fun _ hk => hk.2) (.slice Ao35 t501.length co35)) (fun _ hk => hk.2) (.int .i64 t504)) (fun _ hk => by first | exact hk.1.2 | exact hk.1)⟩
               have n2_ : Aside0 (((w34.setCell ⟨gb507,0,none⟩ (.slice Ao35 t501.length co35)).setCell ⟨gb507,1,none⟩ (.int .i64 t504)).heap[gb500]? = some (.cells #[.slice Ao31 t496.length co31,.int .i64 t499] 25 (0,0))) := ⟨kF BK500.out⟩
               have n3_ : Aside0 (((w34.setCell ⟨gb507,0,none⟩ (.slice Ao35 t501.length co35)).setCell ⟨gb507,1,none⟩ (.int .i64 t504)).heap[gb507]? = some (.cells #[.slice Ao35 t501.length co35,.int .i64 t504] 25 (0,0))) := ⟨by (with_reducible repeat (first | refine blk_drewN ?_ _ | refine blk_drew ?_ | refine blk_alloc ?_ _)); apply blkp2; (with_reducible repeat (first | refine blk_drewN ?_ _ | refine blk_drew ?_ | refine blk_alloc ?_ _)); exact BK507.out⟩
               have n4_ : Aside0 (Below w.heap.size w ((w34.setCell ⟨gb507,0,none⟩ (.slice Ao35 t501.length co35)).setCell ⟨gb507,1,none⟩ (.int .i64 t504))) := ⟨bA⟩
               (try clear HO498)
               (try clear HO503)
               (try clear BK500)
               (try clear BK507)
               (try clear HB)
               generalize ((w34.setCell ⟨gb507,0,none⟩ (.slice Ao35 t501.length co35)).setCell ⟨gb507,1,none⟩ (.int .i64 t504)) = w38 at n0_ n1_ n2_ n3_ n4_ ⊢
               have HO498 := n0_
               have HO503 := n1_
               have BK500 := n2_
               have BK507 := n3_
               have HB := n4_
               clear n0_ n1_ n2_ n3_ n4_
               replace HO498 := Aside0.mk (Kd.R_drew HO498.out)
               replace HO503 := Aside0.mk (Kd.R_drew HO503.out)
               replace BK500 := Aside0.mk (blk_drew BK500.out)
               replace BK507 := Aside0.mk (blk_drew BK507.out)
               replace HB := Aside0.mk (below_drew1 HB.out)
               refine start_ (n:=13) (S:=fun w' => w'.cell? ⟨gb507,0,none⟩ = some (.slice Ao35 t501.length co35) ∧ w'.cell? ⟨gb507,1,none⟩ = some (.int .i64 t504)) (ds := []) (bm 13 0) (by kernel_rfl) rfl rfl ⟨bl BK507 0,bl BK507 1⟩ (fun hHeld => ?_); refine with_tabW laws_FnCas.tab5 laws_FnCas.bits5 (fun HT_ HW_ => ?_)
               generalize w38.drew = w39 at HO498 HO503 BK500 BK507 HB hHeld ⊢
               refine pV_ 1 44 (bm 13 2) HT_.out ?_
               refine pV_ 2 45 (bm 13 6) HT_.out ?_
               refine take_ (i:=0) (N:=some 43) (v:=?_) (a':=?_) (bm 13 7) rfl rfl (take_ofW HT_.out HW_.out (by kernel_rfl)) (fun _ _ _ h => h) (Or.inl ⟨by rfl,?_⟩) hHeld ?_ ?_
               rotate_left
               ·rintro w' ⟨s0,s1⟩
                go_simp
                with_reducible rfl
               rotate_left
               ·simp only [Act.put,setIfInBounds_toArray,set_cons_zero,set_cons_succ,i64_w,i32_w]
                rfl
               refine join_ (σ := Value × Nat) 3 (bm 13 1023) (fun s_ => [(46,.string t508),(47,.tuple #[.agg #[s_.1,.int .i64 t512],.int .i64 t513,.int .i64 t514]),(9,.pointer (some ⟨s_.2,0,none⟩)),(42,.tuple #[.agg #[s_.1,.int .i64 t512],.int .i64 t513,.int .i64 t514]),(48,.agg #[s_.1,.int .i64 t512]),(49,.int .i64 t513),(50,.int .i64 t514)]) (fun s_ w' => (w'.cell? ⟨gb507,0,none⟩ = some (.slice Ao35 t501.length co35) ∧ w'.cell? ⟨gb507,1,none⟩ = some (.int .i64 t504)) ∧ (Kd.R k32 32 w' w.heap.size (fun k_ => some k_ ≠ (.slice Ao35 t501.length co35 : Value).ownBlock ∧ some k_ ≠ (s_.1 : Value).ownBlock) (.slice Ao31 t496.length co31) t496) ∧ (Kd.R k32 32 w' w.heap.size (fun k_ => some k_ ≠ (.slice Ao31 t496.length co31 : Value).ownBlock ∧ some k_ ≠ (s_.1 : Value).ownBlock) (.slice Ao35 t501.length co35) t501) ∧ (Kd.R k32 32 w' w.heap.size (fun k_ => some k_ ≠ (.slice Ao31 t496.length co31 : Value).ownBlock ∧ some k_ ≠ (.slice Ao35 t501.length co35 : Value).ownBlock) s_.1 t509) ∧ (w'.heap[gb500]? = some (.cells #[.slice Ao31 t496.length co31,.int .i64 t499] 25 (0,0))) ∧ (w'.heap[gb507]? = some (.cells #[.slice Ao35 t501.length co35,.int .i64 t504] 25 (0,0))) ∧ (w'.heap[s_.2]? = some (.cells #[.slice none 0 0,.int .i64 0] 25 (0,0))) ∧ (w.heap.size ≤ s_.2) ∧ (w.heap.size ≤ s_.2) ∧ (gb500 ≠ s_.2) ∧ (s_.2 ≠ gb500) ∧ (gb507 ≠ s_.2) ∧ (s_.2 ≠ gb507) ∧ (Below w.heap.size w w')) ?_ ?_
               rotate_left
               ·intro hCont
                refine two_ (i:=3) (j:=9) (Ni := some 46) (Nj := some 9) (bm 13 15) (bm 13 519) rfl rfl rfl rfl (two_of HT_.out (by kernel_rfl)) (by decide) (by decide) (fun K hK => ?_) (fun K hK => ?_)
                ·skip
                 refine goes_ Try.func11 (by kernel_rfl) rfl #[.slice A1 l1.length c1,.int .i64 3] (by rfl) rfl rfl mA ?_
                 with_reducible refine (spec_TextOf.calls kj2 _ _ l1 3 t508 _ ?side1 ?side2 A8.out).mono ?_
                 (case side1 => exact sC HR1.out)
                 (case side2 => exact HC1.out)
                 rintro e w40 ⟨rfl,hb⟩
                 refine ⟨_,rfl,?_⟩
                 replace HO498 := Aside0.mk (Kd.R_below (rA HO498.out) hb)
                 replace HO503 := Aside0.mk (Kd.R_below (rA HO503.out) hb)
                 replace BK500 := Aside0.mk (bb BK500.out hb)
                 replace BK507 := Aside0.mk (bb BK507.out hb)
                 replace HB := Aside0.mk (below_step bA hb)
                 clear hb
                 refine hK.out _ _ ⟨bl BK507 0,bl BK507 1⟩ (fun hHeld => ?_)
                 clear hK K
                 refine norm_ (a':=?_) ?_ ?_
                 rotate_left
                 ·show Act.put _ (some 46) _ = _
                  simp only [Act.put,setIfInBounds_toArray,set_cons_zero,set_cons_succ,i64_w,i32_w]
                  rfl
                 refine two_ (i:=4) (j:=9) (Ni := some 47) (Nj := some 9) (bm 13 31) (bm 13 527) rfl rfl rfl rfl (two_of HT_.out (by kernel_rfl)) (by decide) (by decide) (fun K hK => ?_) (fun K hK => ?_)
                 ·skip
                  refine goes_ Try.func20 (by kernel_rfl) rfl #[.agg #[.slice Ao35 t501.length co35,.int .i64 t504],.string (⟨#[109,47,49]⟩ : ByteArray),.int .i64 t505,.string t508] (by rfl) rfl rfl mA ?_
                  with_reducible refine (impl_PutVersion.calls kj2 _ _ t501 t504 (⟨#[109,47,49]⟩ : ByteArray) t505 t508 t509 t512 t513 t514 _ ?side1 ?side2 A9.out).mono ?_
                  (case side1 => repeat (first | exact (Kd.R_reads' HO503.out).2.2 | (with_reducible refine Kd.C_alloc ?_ _) | (with_reducible refine Kd.C_drewN ?_ _) | (with_reducible refine Kd.C_drew ?_)))
                  (case side2 => exact (Kd.R_reads' HO503.out).2.1)
                  rintro e w41 ⟨v510,rfl,ho0,hb⟩
                  refine ⟨_,rfl,?_⟩
                  have HO511 := Aside0.mk (Kd.R_lower (Kd.R_new' (Kd.R_new' ho0 (Kd.R_lt (rA HO498.out))) (Kd.R_lt (rA HO503.out))) (below_size bA))
                  replace HO498 := Aside0.mk (Kd.R_elder' (rA HO498.out) (Kd.R_base ho0) hb)
                  replace HO503 := Aside0.mk (Kd.R_elder' (rA HO503.out) (Kd.R_base ho0) hb)
                  replace BK500 := Aside0.mk (bb BK500.out hb)
                  replace BK507 := Aside0.mk (bb BK507.out hb)
                  replace HB := Aside0.mk (below_step bA hb)
                  clear hb
                  (try clear ho0)
                  refine hK.out _ _ ⟨bl BK507 0,bl BK507 1⟩ (fun hHeld => ?_)
                  clear hK K
                  refine norm_ (a':=?_) ?_ ?_
                  rotate_left
                  ·show Act.put _ (some 47) _ = _
                   simp only [Act.put,setIfInBounds_toArray,set_cons_zero,set_cons_succ,i64_w,i32_w]
                   rfl
                  refine pV_ 5 42 (bm 13 63) HT_.out ?_
                  refine pV_ 6 48 (bm 13 127) HT_.out ?_
                  refine pV_ 7 49 (bm 13 255) HT_.out ?_
                  refine pV_ 8 50 (bm 13 511) HT_.out ?_
                  refine one_ (i:=9) (N:=some 9) (bm 13 1023) rfl rfl (one_of HT_.out (by kernel_rfl)) (by decide) (fun K hK => ?_)
                  refine box_step ?hg (N:=9) ?hd (cs := #[.slice none 0 0,.int .i64 0]) (t:=25) ?hr ?_; (case hd => rfl); (case hg => rfl); (case hr => first | (go_simp; done) | (go_simp; rfl))
                  intro gb515 hg w42 hbox hb
                  replace HO498 := Aside0.mk (Kd.R_below (rA HO498.out) hb)
                  replace HO503 := Aside0.mk (Kd.R_below (rA HO503.out) hb)
                  replace HO511 := Aside0.mk (Kd.R_below (rA HO511.out) hb)
                  have BK515 := Aside0.mk (hbox)
                  have GW515 := Aside0.mk ((gw hg : w.heap.size ≤ gb515))
                  have GE515 := Aside0.mk ((gw hg : w.heap.size ≤ gb515))
                  replace HB := Aside0.mk (below_step bA hb)
                  have NB500_515 := Aside0.mk ((nl hg BK500.out))
                  have NB515_500 := Aside0.mk ((ng hg BK500.out))
                  replace BK500 := Aside0.mk (bb BK500.out hb)
                  have NB507_515 := Aside0.mk ((nl hg BK507.out))
                  have NB515_507 := Aside0.mk ((ng hg BK507.out))
                  replace BK507 := Aside0.mk (bb BK507.out hb)
                  clear hb hbox hg
                  refine hK.out _ _ ⟨bl BK507 0,bl BK507 1⟩ (fun hHeld => ?_)
                  clear hK K
                  refine norm_ (a':=?_) ?_ ?_
                  rotate_left
                  ·show Act.put _ (some 9) _ = _
                   simp only [Act.put,setIfInBounds_toArray,set_cons_zero,set_cons_succ,i64_w,i32_w]
                   rfl
                  exact norm_ (by simp only [putAll,Act.put,setIfInBounds_toArray,set_cons_zero,set_cons_succ]) (hCont (v510,gb515) _ ⟨hHeld,(rA HO498.out),(rA HO503.out),(rM HO511.out (fun _ hk => ⟨hk.1.2,hk.2⟩)),(kA BK500.out),(kA BK507.out),(kA BK515.out),GW515.out,GE515.out,NB500_515.out,NB515_500.out,NB507_515.out,NB515_507.out,bA⟩)
                 ·skip
                  refine box_step ?hg (N:=9) ?hd (cs := #[.slice none 0 0,.int .i64 0]) (t:=25) ?hr ?_; (case hd => rfl); (case hg => rfl); (case hr => first | (go_simp; done) | (go_simp; rfl))
                  intro gb515 hg w41 hbox hb
                  replace HO498 := Aside0.mk (Kd.R_below (rA HO498.out) hb)
                  replace HO503 := Aside0.mk (Kd.R_below (rA HO503.out) hb)
                  have BK515 := Aside0.mk (hbox)
                  have GW515 := Aside0.mk ((gw hg : w.heap.size ≤ gb515))
                  have GE515 := Aside0.mk ((gw hg : w.heap.size ≤ gb515))
                  replace HB := Aside0.mk (below_step bA hb)
                  have NB500_515 := Aside0.mk ((nl hg BK500.out))
                  have NB515_500 := Aside0.mk ((ng hg BK500.out))
                  replace BK500 := Aside0.mk (bb BK500.out hb)
                  have NB507_515 := Aside0.mk ((nl hg BK507.out))
                  have NB515_507 := Aside0.mk ((ng hg BK507.out))
                  replace BK507 := Aside0.mk (bb BK507.out hb)
                  clear hb hbox hg
                  refine hK.out _ _ ⟨bl BK507 0,bl BK507 1⟩ (fun hHeld => ?_)
                  clear hK K
                  refine norm_ (a':=?_) ?_ ?_
                  rotate_left
                  ·show Act.put _ (some 9) _ = _
                   simp only [Act.put,setIfInBounds_toArray,set_cons_zero,set_cons_succ,i64_w,i32_w]
                   rfl
                  refine one_ (i:=4) (N:=some 47) (bm 13 543) rfl rfl (one_of HT_.out (by kernel_rfl)) (by decide) (fun K hK => ?_)
                  refine goes_ Try.func20 (by kernel_rfl) rfl #[.agg #[.slice Ao35 t501.length co35,.int .i64 t504],.string (⟨#[109,47,49]⟩ : ByteArray),.int .i64 t505,.string t508] (by rfl) rfl rfl mA ?_
                  with_reducible refine (impl_PutVersion.calls kj2 _ _ t501 t504 (⟨#[109,47,49]⟩ : ByteArray) t505 t508 t509 t512 t513 t514 _ ?side1 ?side2 A9.out).mono ?_
                  (case side1 => repeat (first | exact (Kd.R_reads' HO503.out).2.2 | (with_reducible refine Kd.C_alloc ?_ _) | (with_reducible refine Kd.C_drewN ?_ _) | (with_reducible refine Kd.C_drew ?_)))
                  (case side2 => exact (Kd.R_reads' HO503.out).2.1)
                  rintro e w42 ⟨v510,rfl,ho0,hb⟩
                  refine ⟨_,rfl,?_⟩
                  have HO511 := Aside0.mk (Kd.R_lower (Kd.R_new' (Kd.R_new' ho0 (Kd.R_lt (rA HO498.out))) (Kd.R_lt (rA HO503.out))) (below_size bA))
                  replace HO498 := Aside0.mk (Kd.R_elder' (rA HO498.out) (Kd.R_base ho0) hb)
                  replace HO503 := Aside0.mk (Kd.R_elder' (rA HO503.out) (Kd.R_base ho0) hb)
                  replace BK500 := Aside0.mk (bb BK500.out hb)
                  replace BK507 := Aside0.mk (bb BK507.out hb)
                  replace BK515 := Aside0.mk (bb BK515.out hb)
                  replace HB := Aside0.mk (below_step bA hb)
                  clear hb
                  (try clear ho0)
                  refine hK.out _ _ ⟨bl BK507 0,bl BK507 1⟩ (fun hHeld => ?_)
                  clear hK K
                  refine norm_ (a':=?_) ?_ ?_
                  rotate_left
                  ·show Act.put _ (some 47) _ = _
                   simp only [Act.put,setIfInBounds_toArray,set_cons_zero,set_cons_succ,i64_w,i32_w]
                   rfl
                  refine pV_ 5 42 (bm 13 575) HT_.out ?_
                  refine pV_ 6 48 (bm 13 639) HT_.out ?_
                  refine pV_ 7 49 (bm 13 767) HT_.out ?_
                  refine pV_ 8 50 (bm 13 1023) HT_.out ?_
                  exact norm_ (by simp only [putAll,Act.put,setIfInBounds_toArray,set_cons_zero,set_cons_succ]) (hCont (v510,gb515) _ ⟨hHeld,(rA HO498.out),(rA HO503.out),(rM HO511.out (fun _ hk => ⟨hk.1.2,hk.2⟩)),(kA BK500.out),(kA BK507.out),(kA BK515.out),GW515.out,GE515.out,NB500_515.out,NB515_500.out,NB507_515.out,NB515_507.out,bA⟩)
                ·skip
                 refine box_step ?hg (N:=9) ?hd (cs := #[.slice none 0 0,.int .i64 0]) (t:=25) ?hr ?_; (case hd => rfl); (case hg => rfl); (case hr => first | (go_simp; done) | (go_simp; rfl))
                 intro gb515 hg w40 hbox hb
                 replace HO498 := Aside0.mk (Kd.R_below (rA HO498.out) hb)
                 replace HO503 := Aside0.mk (Kd.R_below (rA HO503.out) hb)
                 have BK515 := Aside0.mk (hbox)
                 have GW515 := Aside0.mk ((gw hg : w.heap.size ≤ gb515))
                 have GE515 := Aside0.mk ((gw hg : w.heap.size ≤ gb515))
                 replace HB := Aside0.mk (below_step bA hb)
                 have NB500_515 := Aside0.mk ((nl hg BK500.out))
                 have NB515_500 := Aside0.mk ((ng hg BK500.out))
                 replace BK500 := Aside0.mk (bb BK500.out hb)
                 have NB507_515 := Aside0.mk ((nl hg BK507.out))
                 have NB515_507 := Aside0.mk ((ng hg BK507.out))
                 replace BK507 := Aside0.mk (bb BK507.out hb)
                 clear hb hbox hg
                 refine hK.out _ _ ⟨bl BK507 0,bl BK507 1⟩ (fun hHeld => ?_)
                 clear hK K
                 refine norm_ (a':=?_) ?_ ?_
                 rotate_left
                 ·show Act.put _ (some 9) _ = _
                  simp only [Act.put,setIfInBounds_toArray,set_cons_zero,set_cons_succ,i64_w,i32_w]
                  rfl
                 refine one_ (i:=3) (N:=some 46) (bm 13 527) rfl rfl (one_of HT_.out (by kernel_rfl)) (by decide) (fun K hK => ?_)
                 refine goes_ Try.func11 (by kernel_rfl) rfl #[.slice A1 l1.length c1,.int .i64 3] (by rfl) rfl rfl mA ?_
                 with_reducible refine (spec_TextOf.calls kj2 _ _ l1 3 t508 _ ?side1 ?side2 A8.out).mono ?_
                 (case side1 => exact sC HR1.out)
                 (case side2 => exact HC1.out)
                 rintro e w41 ⟨rfl,hb⟩
                 refine ⟨_,rfl,?_⟩
                 replace HO498 := Aside0.mk (Kd.R_below (rA HO498.out) hb)
                 replace HO503 := Aside0.mk (Kd.R_below (rA HO503.out) hb)
                 replace BK500 := Aside0.mk (bb BK500.out hb)
                 replace BK507 := Aside0.mk (bb BK507.out hb)
                 replace BK515 := Aside0.mk (bb BK515.out hb)
                 replace HB := Aside0.mk (below_step bA hb)
                 clear hb
                 refine hK.out _ _ ⟨bl BK507 0,bl BK507 1⟩ (fun hHeld => ?_)
                 clear hK K
                 refine norm_ (a':=?_) ?_ ?_
                 rotate_left
                 ·show Act.put _ (some 46) _ = _
                  simp only [Act.put,setIfInBounds_toArray,set_cons_zero,set_cons_succ,i64_w,i32_w]
                  rfl
                 refine one_ (i:=4) (N:=some 47) (bm 13 543) rfl rfl (one_of HT_.out (by kernel_rfl)) (by decide) (fun K hK => ?_)
                 refine goes_ Try.func20 (by kernel_rfl) rfl #[.agg #[.slice Ao35 t501.length co35,.int .i64 t504],.string (⟨#[109,47,49]⟩ : ByteArray),.int .i64 t505,.string t508] (by rfl) rfl rfl mA ?_
                 with_reducible refine (impl_PutVersion.calls kj2 _ _ t501 t504 (⟨#[109,47,49]⟩ : ByteArray) t505 t508 t509 t512 t513 t514 _ ?side1 ?side2 A9.out).mono ?_
                 (case side1 => repeat (first | exact (Kd.R_reads' HO503.out).2.2 | (with_reducible refine Kd.C_alloc ?_ _) | (with_reducible refine Kd.C_drewN ?_ _) | (with_reducible refine Kd.C_drew ?_)))
                 (case side2 => exact (Kd.R_reads' HO503.out).2.1)
                 rintro e w42 ⟨v510,rfl,ho0,hb⟩
                 refine ⟨_,rfl,?_⟩
                 have HO511 := Aside0.mk (Kd.R_lower (Kd.R_new' (Kd.R_new' ho0 (Kd.R_lt (rA HO498.out))) (Kd.R_lt (rA HO503.out))) (below_size bA))
                 replace HO498 := Aside0.mk (Kd.R_elder' (rA HO498.out) (Kd.R_base ho0) hb)
                 replace HO503 := Aside0.mk (Kd.R_elder' (rA HO503.out) (Kd.R_base ho0) hb)
                 replace BK500 := Aside0.mk (bb BK500.out hb)
                 replace BK507 := Aside0.mk (bb BK507.out hb)
                 replace BK515 := Aside0.mk (bb BK515.out hb)
                 replace HB := Aside0.mk (below_step bA hb)
                 clear hb
                 (try clear ho0)
                 refine hK.out _ _ ⟨bl BK507 0,bl BK507 1⟩ (fun hHeld => ?_)
                 clear hK K
                 refine norm_ (a':=?_) ?_ ?_
                 rotate_left
                 ·show Act.put _ (some 47) _ = _
                  simp only [Act.put,setIfInBounds_toArray,set_cons_zero,set_cons_succ,i64_w,i32_w]
                  rfl
                 refine pV_ 5 42 (bm 13 575) HT_.out ?_
                 refine pV_ 6 48 (bm 13 639) HT_.out ?_
                 refine pV_ 7 49 (bm 13 767) HT_.out ?_
                 refine pV_ 8 50 (bm 13 1023) HT_.out ?_
                 exact norm_ (by simp only [putAll,Act.put,setIfInBounds_toArray,set_cons_zero,set_cons_succ]) (hCont (v510,gb515) _ ⟨hHeld,(rA HO498.out),(rA HO503.out),(rM HO511.out (fun _ hk => ⟨hk.1.2,hk.2⟩)),(kA BK500.out),(kA BK507.out),(kA BK515.out),GW515.out,GE515.out,NB500_515.out,NB515_500.out,NB507_515.out,NB515_507.out,bA⟩)
               rintro ⟨v510,gb515⟩ w43 ⟨hS_,h0_,h1_,h2_,h3_,h4_,h5_,h6_,h7_,h8_,h9_,h10_,h11_,h12_⟩
               replace HO498 : Aside0 (Kd.R k32 32 w43 w.heap.size (fun k_ => some k_ ≠ (.slice Ao35 t501.length co35 : Value).ownBlock ∧ some k_ ≠ (v510 : Value).ownBlock) (.slice Ao31 t496.length co31) t496) := ⟨h0_⟩
               replace HO503 : Aside0 (Kd.R k32 32 w43 w.heap.size (fun k_ => some k_ ≠ (.slice Ao31 t496.length co31 : Value).ownBlock ∧ some k_ ≠ (v510 : Value).ownBlock) (.slice Ao35 t501.length co35) t501) := ⟨h1_⟩
               have HO511 : Aside0 (Kd.R k32 32 w43 w.heap.size (fun k_ => some k_ ≠ (.slice Ao31 t496.length co31 : Value).ownBlock ∧ some k_ ≠ (.slice Ao35 t501.length co35 : Value).ownBlock) v510 t509) := ⟨h2_⟩
               replace BK500 : Aside0 (w43.heap[gb500]? = some (.cells #[.slice Ao31 t496.length co31,.int .i64 t499] 25 (0,0))) := ⟨h3_⟩
               replace BK507 : Aside0 (w43.heap[gb507]? = some (.cells #[.slice Ao35 t501.length co35,.int .i64 t504] 25 (0,0))) := ⟨h4_⟩
               have BK515 : Aside0 (w43.heap[gb515]? = some (.cells #[.slice none 0 0,.int .i64 0] 25 (0,0))) := ⟨h5_⟩
               have GW515 : Aside0 (w.heap.size ≤ gb515) := ⟨h6_⟩
               have GE515 : Aside0 (w.heap.size ≤ gb515) := ⟨h7_⟩
               have NB500_515 : Aside0 (gb500 ≠ gb515) := ⟨h8_⟩
               have NB515_500 : Aside0 (gb515 ≠ gb500) := ⟨h9_⟩
               have NB507_515 : Aside0 (gb507 ≠ gb515) := ⟨h10_⟩
               have NB515_507 : Aside0 (gb515 ≠ gb507) := ⟨h11_⟩
               replace HB : Aside0 (Below w.heap.size w w43) := ⟨h12_⟩
               clear h0_ h1_ h2_ h3_ h4_ h5_ h6_ h7_ h8_ h9_ h10_ h11_ h12_
               have hHeld : w43.cell? ⟨gb507,0,none⟩ = some (.slice Ao35 t501.length co35) ∧ w43.cell? ⟨gb507,1,none⟩ = some (.int .i64 t504) := hS_
               obtain ⟨Ao44,co44,eo44⟩ := Kd.R_slice HO511.out
               (first | subst eo44 | (injection eo44 with f1_ f2_ f3_; have f4_ := f1_.symm; have f5_ := f3_.symm; clear f1_ f2_ f3_; subst f4_; subst f5_))
               refine norm_ (a':=?_) ?_ ?_
               rotate_left
               ·simp only [putAll,Act.put,setIfInBounds_toArray,set_cons_zero,set_cons_succ]
                rfl
               refine one_ (i:=10) (N:=none) (bm 13 2047) rfl rfl (one_of HT_.out (by kernel_rfl)) (by decide) (fun K hK => ?_)
               have hs45 : w43.cell? ⟨gb515,0,none⟩ = some (.slice none 0 0) := bl BK515 0
               have hfs45 := blk_frozen BK515.out 0
               have hns45_0 := NB500_515.out
               have hns45_1 := NB507_515.out
               have hms45_0 := NB515_500.out
               have hms45_1 := NB515_507.out
               have hs46 : w43.cell? ⟨gb515,1,none⟩ = some (.int .i64 0) := bl BK515 1
               have hfs46 := blk_frozen BK515.out 1
               have hns46_0 := NB500_515.out
               have hns46_1 := NB507_515.out
               have hms46_0 := NB515_500.out
               have hms46_1 := NB515_507.out
               refine skip_ (w1 := ?_) (by rfl) rfl ?_ ?_
               rotate_left
               ·go_simp
                rfl
               refine hK.out _ _ ⟨((cell_far (p:=⟨gb515,_,none⟩) NB507_515.out _).trans (((cell_far (p:=⟨gb515,_,none⟩) NB507_515.out _).trans (hHeld.1)))),((cell_far (p:=⟨gb515,_,none⟩) NB507_515.out _).trans (((cell_far (p:=⟨gb515,_,none⟩) NB507_515.out _).trans (hHeld.2))))⟩ (fun hHeld => ?_)
               clear hK K
               refine pV_ 11 10 (bm 13 4095) HT_.out ?_
               refine pV_ 12 11 (bm 13 8191) HT_.out ?_
               refine done_ (done_of HT_.out (by kernel_rfl)) ?_
               have hnb47 := NB515_500.out
               have hnc47 := NB500_515.out
               have hnb48 := NB515_507.out
               have hnc48 := NB507_515.out
               obtain ⟨hcz49_0,hcz49_1⟩ := cl2 BK515.out
               obtain ⟨hfz49_0,hfz49_1⟩ := fz2 BK515.out
               try go_wp2_with (first | ((with_reducible refine gate_callee (f:=20) rfl ?_); refine goesL_ (some 54) rfl rfl Try.func20 (by kernel_rfl) rfl #[.agg #[.slice Ao44 t509.length co44,.int .i64 t512],.string (⟨#[109,47,49]⟩ : ByteArray),.int .i64 t505,.string (⟨#[99]⟩ : ByteArray)] rfl mA ?_; (with_reducible refine (impl_PutVersion.calls kj2 _ _ t509 t512 (⟨#[109,47,49]⟩ : ByteArray) t505 (⟨#[99]⟩ : ByteArray) t516 t519 t520 t521 _ ?side1 ?side2 A10.out).mono ?_); (case side1 => refine (Kd.R_reads' (e:=32) (base := w.heap.size) (ok := fun k_ => (some k_ ≠ (.slice Ao31 t496.length co31 : Value).ownBlock ∧ some k_ ≠ (.slice Ao35 t501.length co35 : Value).ownBlock)) (n:=t509.length) (c:=co44) ?_).2.2; exact (by (with_reducible repeat (first | apply Kd.R_alloc | apply Kd.R_drewN | apply Kd.R_drew)); exact (Kd.R_mono (Kd.R_far (p:=⟨gb515,1,none⟩) (Kd.R_far (p:=⟨gb515,0,none⟩) (Kd.R_types HO511.out BK515.out (by decide)) (fun _ hk => hk.2) (.slice Ao44 t509.length co44)) (fun _ hk => hk.2) (.int .i64 t512)) (fun _ h_ => h_.1)))); (case side2 => exact (Kd.R_reads' HO511.out).2.1); rintro e w50 ⟨v517,rfl,ho0,hb⟩; refine ⟨_,rfl,?_⟩; have HO518 := Aside0.mk (Kd.R_lower (Kd.R_new' (Kd.R_new' (Kd.R_new' ho0 (Kd.R_lt (by (with_reducible repeat (first | apply Kd.R_alloc | apply Kd.R_drewN | apply Kd.R_drew)); exact (Kd.R_mono (Kd.R_far (p:=⟨gb515,1,none⟩) (Kd.R_far (p:=⟨gb515,0,none⟩) (Kd.R_types HO498.out BK515.out (by decide)) (fun _ hk => hk.2) (.slice Ao44 t509.length co44)) (fun _ hk => hk.2) (.int .i64 t512)) (fun _ h_ => h_.1))))) (Kd.R_lt (by (with_reducible repeat (first | apply Kd.R_alloc | apply Kd.R_drewN | apply Kd.R_drew)); exact (Kd.R_mono (Kd.R_far (p:=⟨gb515,1,none⟩) (Kd.R_far (p:=⟨gb515,0,none⟩) (Kd.R_types HO503.out BK515.out (by decide)) (fun _ hk => hk.2) (.slice Ao44 t509.length co44)) (fun _ hk => hk.2) (.int .i64 t512)) (fun _ h_ => h_.1))))) (Kd.R_lt (by (with_reducible repeat (first | apply Kd.R_alloc | apply Kd.R_drewN | apply Kd.R_drew)); exact (Kd.R_mono (Kd.R_far (p:=⟨gb515,1,none⟩) (Kd.R_far (p:=⟨gb515,0,none⟩) (Kd.R_types HO511.out BK515.out (by decide)) (fun _ hk => hk.2) (.slice Ao44 t509.length co44)) (fun _ hk => hk.2) (.int .i64 t512)) (fun _ h_ => h_.1))))) (below_size bA)); replace HO498 := Aside0.mk (Kd.R_elder' (by (with_reducible repeat (first | apply Kd.R_alloc | apply Kd.R_drewN | apply Kd.R_drew)); exact (Kd.R_mono (Kd.R_far (p:=⟨gb515,1,none⟩) (Kd.R_far (p:=⟨gb515,0,none⟩) (Kd.R_types HO498.out BK515.out (by decide)) (fun _ hk => hk.2) (.slice Ao44 t509.length co44)) (fun _ hk => hk.2) (.int .i64 t512)) (fun _ h_ => h_.1))) (Kd.R_base ho0) hb); replace HO503 := Aside0.mk (Kd.R_elder' (by (with_reducible repeat (first | apply Kd.R_alloc | apply Kd.R_drewN | apply Kd.R_drew)); exact (Kd.R_mono (Kd.R_far (p:=⟨gb515,1,none⟩) (Kd.R_far (p:=⟨gb515,0,none⟩) (Kd.R_types HO503.out BK515.out (by decide)) (fun _ hk => hk.2) (.slice Ao44 t509.length co44)) (fun _ hk => hk.2) (.int .i64 t512)) (fun _ h_ => h_.1))) (Kd.R_base ho0) hb); replace HO511 := Aside0.mk (Kd.R_elder' (by (with_reducible repeat (first | apply Kd.R_alloc | apply Kd.R_drewN | apply Kd.R_drew)); exact (Kd.R_mono (Kd.R_far (p:=⟨gb515,1,none⟩) (Kd.R_far (p:=⟨gb515,0,none⟩) (Kd.R_types HO511.out BK515.out (by decide)) (fun _ hk => hk.2) (.slice Ao44 t509.length co44)) (fun _ hk => hk.2) (.int .i64 t512)) (fun _ h_ => h_.1))) (Kd.R_base ho0) hb); replace BK500 := Aside0.mk (bc BK500.out hb); replace BK507 := Aside0.mk (bc BK507.out hb); replace BK515 := Aside0.mk (blk_below (g:=gb515) (o:=.cells #[.slice Ao44 t509.length co44,.int .i64 t512] 25 (0,0)) (by (with_reducible repeat (first | refine blk_drewN ?_ _ | refine blk_drew ?_ | refine blk_alloc ?_ _)); apply blkp2; (with_reducible repeat (first | refine blk_drewN ?_ _ | refine blk_drew ?_ | refine blk_alloc ?_ _)); exact BK515.out) hb); replace HB := Aside0.mk (below_step bA hb); clear hb; (try clear ho0)) | ((with_reducible refine gate_dst (N:=12) rfl ?_); (try (refine gate_guard (by rfl) ?_; dsimp only)); refine box_event ?hg (N:=12) ?hd (cs := #[.slice none 0 0,.int .i64 0]) (t:=25) ?hr ?_; (case hd => rfl); (case hg => rfl); (case hr => first | (go_simp; done) | (go_simp; rfl)); intro gb522 hg w51 hbox hb; replace HO498 := Aside0.mk (Kd.R_below (rA HO498.out) hb); replace HO503 := Aside0.mk (Kd.R_below (rA HO503.out) hb); replace HO511 := Aside0.mk (Kd.R_below (rA HO511.out) hb); replace HO518 := Aside0.mk (Kd.R_below (rA HO518.out) hb); have BK522 := Aside0.mk (hbox); have GW522 := Aside0.mk ((gw hg : w.heap.size ≤ gb522)); have GE522 := Aside0.mk ((gw hg : w.heap.size ≤ gb522)); replace HB := Aside0.mk (below_step bA hb); have NB500_522 := Aside0.mk ((nl hg BK500.out)); have NB522_500 := Aside0.mk ((ng hg BK500.out)); replace BK500 := Aside0.mk (bb BK500.out hb); have NB507_522 := Aside0.mk ((nl hg BK507.out)); have NB522_507 := Aside0.mk ((ng hg BK507.out)); replace BK507 := Aside0.mk (bb BK507.out hb); have NB515_522 := Aside0.mk ((nl hg BK515.out)); have NB522_515 := Aside0.mk ((ng hg BK515.out)); replace BK515 := Aside0.mk (bb BK515.out hb); clear hb hbox hg; obtain ⟨Ao52,co52,eo52⟩ := Kd.R_slice HO518.out; subst eo52; have hnb53 := NB522_500.out; have hnc53 := NB500_522.out; have hnb54 := NB522_507.out; have hnc54 := NB507_522.out; have hnb55 := NB522_515.out; have hnc55 := NB515_522.out; obtain ⟨hcz56_0,hcz56_1⟩ := cl2 BK522.out; obtain ⟨hfz56_0,hfz56_1⟩ := fz2 BK522.out; obtain ⟨hcz57_0,hcz57_1⟩ := cl2 BK515.out; obtain ⟨hfz57_0,hfz57_1⟩ := fz2 BK515.out) | ((with_reducible refine gate_callee (f:=15) rfl ?_); refine goesL_ (some 61) rfl rfl Try.func15 (by kernel_rfl) rfl #[.agg #[.slice Ao44 t509.length co44,.int .i64 t512],.string (⟨#[109,47,49]⟩ : ByteArray),.int .i64 t505] rfl mA ?_; (with_reducible refine (impl_DeleteVersion.calls kj2 _ _ t509 t512 (⟨#[109,47,49]⟩ : ByteArray) t505 t523 t526 t527 _ ?side1 ?side2 A11.out).mono ?_); (case side1 => refine (Kd.R_reads' (e:=32) (base := w.heap.size) (ok := fun k_ => ((some k_ ≠ (.slice Ao31 t496.length co31 : Value).ownBlock ∧ some k_ ≠ (.slice Ao35 t501.length co35 : Value).ownBlock) ∧ some k_ ≠ (.slice Ao52 t516.length co52 : Value).ownBlock)) (n:=t509.length) (c:=co44) ?_).2.2; exact (by (with_reducible repeat (first | apply Kd.R_alloc | apply Kd.R_drewN | apply Kd.R_drew)); exact (Kd.R_mono (Kd.R_far (p:=⟨gb522,1,none⟩) (Kd.R_far (p:=⟨gb522,0,none⟩) (Kd.R_types HO511.out BK522.out (by decide)) (fun _ hk => hk.2) (.slice Ao52 t516.length co52)) (fun _ hk => hk.2) (.int .i64 t519)) (fun _ h_ => h_.1)))); (case side2 => exact (Kd.R_reads' HO511.out).2.1); rintro e w58 ⟨v524,rfl,ho0,hb⟩; refine ⟨_,rfl,?_⟩; have HO525 := Aside0.mk (Kd.R_lower (Kd.R_new' (Kd.R_new' (Kd.R_new' (Kd.R_new' ho0 (Kd.R_lt (by (with_reducible repeat (first | apply Kd.R_alloc | apply Kd.R_drewN | apply Kd.R_drew)); exact (Kd.R_mono (Kd.R_far (p:=⟨gb522,1,none⟩) (Kd.R_far (p:=⟨gb522,0,none⟩) (Kd.R_types HO498.out BK522.out (by decide)) (fun _ hk => hk.2) (.slice Ao52 t516.length co52)) (fun _ hk => hk.2) (.int .i64 t519)) (fun _ h_ => h_.1))))) (Kd.R_lt (by (with_reducible repeat (first | apply Kd.R_alloc | apply Kd.R_drewN | apply Kd.R_drew)); exact (Kd.R_mono (Kd.R_far (p:=⟨gb522,1,none⟩) (Kd.R_far (p:=⟨gb522,0,none⟩) (Kd.R_types HO503.out BK522.out (by decide)) (fun _ hk => hk.2) (.slice Ao52 t516.length co52)) (fun _ hk => hk.2) (.int .i64 t519)) (fun _ h_ => h_.1))))) (Kd.R_lt (by (with_reducible repeat (first | apply Kd.R_alloc | apply Kd.R_drewN | apply Kd.R_drew)); exact (Kd.R_mono (Kd.R_far (p:=⟨gb522,1,none⟩) (Kd.R_far (p:=⟨gb522,0,none⟩) (Kd.R_types HO511.out BK522.out (by decide)) (fun _ hk => hk.2) (.slice Ao52 t516.length co52)) (fun _ hk => hk.2) (.int .i64 t519)) (fun _ h_ => h_.1))))) (Kd.R_lt (by (with_reducible repeat (first | apply Kd.R_alloc | apply Kd.R_drewN | apply Kd.R_drew)); exact (Kd.R_mono (Kd.R_far (p:=⟨gb522,1,none⟩) (Kd.R_far (p:=⟨gb522,0,none⟩) (Kd.R_types HO518.out BK522.out (by decide)) (fun _ hk => hk.2) (.slice Ao52 t516.length co52)) (fun _ hk => hk.2) (.int .i64 t519)) (fun _ h_ => h_.1))))) (below_size bA)); replace HO498 := Aside0.mk (Kd.R_elder' (by (with_reducible repeat (first | apply Kd.R_alloc | apply Kd.R_drewN | apply Kd.R_drew)); exact (Kd.R_mono (Kd.R_far (p:=⟨gb522,1,none⟩) (Kd.R_far (p:=⟨gb522,0,none⟩) (Kd.R_types HO498.out BK522.out (by decide)) (fun _ hk => hk.2) (.slice Ao52 t516.length co52)) (fun _ hk => hk.2) (.int .i64 t519)) (fun _ h_ => h_.1))) (Kd.R_base ho0) hb); replace HO503 := Aside0.mk (Kd.R_elder' (by (with_reducible repeat (first | apply Kd.R_alloc | apply Kd.R_drewN | apply Kd.R_drew)); exact (Kd.R_mono (Kd.R_far (p:=⟨gb522,1,none⟩) (Kd.R_far (p:=⟨gb522,0,none⟩) (Kd.R_types HO503.out BK522.out (by decide)) (fun _ hk => hk.2) (.slice Ao52 t516.length co52)) (fun _ hk => hk.2) (.int .i64 t519)) (fun _ h_ => h_.1))) (Kd.R_base ho0) hb); replace HO511 := Aside0.mk (Kd.R_elder' (by (with_reducible repeat (first | apply Kd.R_alloc | apply Kd.R_drewN | apply Kd.R_drew)); exact (Kd.R_mono (Kd.R_far (p:=⟨gb522,1,none⟩) (Kd.R_far (p:=⟨gb522,0,none⟩) (Kd.R_types HO511.out BK522.out (by decide)) (fun _ hk => hk.2) (.slice Ao52 t516.length co52)) (fun _ hk => hk.2) (.int .i64 t519)) (fun _ h_ => h_.1))) (Kd.R_base ho0) hb); replace HO518 := Aside0.mk (Kd.R_elder' (by (with_reducible repeat (first | apply Kd.R_alloc | apply Kd.R_drewN | apply Kd.R_drew)); exact (Kd.R_mono (Kd.R_far (p:=⟨gb522,1,none⟩) (Kd.R_far (p:=⟨gb522,0,none⟩) (Kd.R_types HO518.out BK522.out (by decide)) (fun _ hk => hk.2) (.slice Ao52 t516.length co52)) (fun _ hk => hk.2) (.int .i64 t519)) (fun _ h_ => h_.1))) (Kd.R_base ho0) hb); replace BK500 := Aside0.mk (bc BK500.out hb); replace BK507 := Aside0.mk (bc BK507.out hb); replace BK515 := Aside0.mk (bc BK515.out hb); replace BK522 := Aside0.mk (blk_below (g:=gb522) (o:=.cells #[.slice Ao52 t516.length co52,.int .i64 t519] 25 (0,0)) (by (with_reducible repeat (first | refine blk_drewN ?_ _ | refine blk_drew ?_ | refine blk_alloc ?_ _)); apply blkp2; (with_reducible repeat (first | refine blk_drewN ?_ _ | refine blk_drew ?_ | refine blk_alloc ?_ _)); exact BK522.out) hb); replace HB := Aside0.mk (below_step bA hb); clear hb; (try clear ho0)) | ((with_reducible refine gate_dst (N:=15) rfl ?_); (try (refine gate_guard (by rfl) ?_; dsimp only)); refine box_event ?hg (N:=15) ?hd (cs := #[.slice none 0 0,.int .i64 0]) (t:=25) ?hr ?_; (case hd => rfl); (case hg => rfl); (case hr => first | (go_simp; done) | (go_simp; rfl)); intro gb528 hg w59 hbox hb; replace HO498 := Aside0.mk (Kd.R_below (rA HO498.out) hb); replace HO503 := Aside0.mk (Kd.R_below (rA HO503.out) hb); replace HO511 := Aside0.mk (Kd.R_below (rA HO511.out) hb); replace HO518 := Aside0.mk (Kd.R_below (rA HO518.out) hb); replace HO525 := Aside0.mk (Kd.R_below (rA HO525.out) hb); have BK528 := Aside0.mk (hbox); have GW528 := Aside0.mk ((gw hg : w.heap.size ≤ gb528)); have GE528 := Aside0.mk ((gw hg : w.heap.size ≤ gb528)); replace HB := Aside0.mk (below_step bA hb); have NB500_528 := Aside0.mk ((nl hg BK500.out)); have NB528_500 := Aside0.mk ((ng hg BK500.out)); replace BK500 := Aside0.mk (bb BK500.out hb); have NB507_528 := Aside0.mk ((nl hg BK507.out)); have NB528_507 := Aside0.mk ((ng hg BK507.out)); replace BK507 := Aside0.mk (bb BK507.out hb); have NB515_528 := Aside0.mk ((nl hg BK515.out)); have NB528_515 := Aside0.mk ((ng hg BK515.out)); replace BK515 := Aside0.mk (bb BK515.out hb); have NB522_528 := Aside0.mk ((nl hg BK522.out)); have NB528_522 := Aside0.mk ((ng hg BK522.out)); replace BK522 := Aside0.mk (bb BK522.out hb); clear hb hbox hg; obtain ⟨Ao60,co60,eo60⟩ := Kd.R_slice HO525.out; subst eo60; have hnb61 := NB528_500.out; have hnc61 := NB500_528.out; have hnb62 := NB528_507.out; have hnc62 := NB507_528.out; have hnb63 := NB528_515.out; have hnc63 := NB515_528.out; have hnb64 := NB528_522.out; have hnc64 := NB522_528.out; obtain ⟨hcz65_0,hcz65_1⟩ := cl2 BK528.out; obtain ⟨hfz65_0,hfz65_1⟩ := fz2 BK528.out; obtain ⟨hcz66_0,hcz66_1⟩ := cl2 BK515.out; obtain ⟨hfz66_0,hfz66_1⟩ := fz2 BK515.out) | ((with_reducible refine gate_callee (f:=12) rfl ?_); refine goesL_ (some 66) rfl rfl Try.func12 (by kernel_rfl) rfl #[.agg #[.slice Ao44 t509.length co44,.int .i64 t512],.string (⟨#[109,47,49]⟩ : ByteArray),.string (⟨#[100]⟩ : ByteArray)] rfl mA ?_; (with_reducible refine (impl_PutAbsent.calls kj2 _ _ t509 t512 (⟨#[109,47,49]⟩ : ByteArray) (⟨#[100]⟩ : ByteArray) t529 t532 t533 t534 _ ?side1 ?side2 A12.out).mono ?_); (case side1 => refine (Kd.R_reads' (e:=32) (base := w.heap.size) (ok := fun k_ => (((some k_ ≠ (.slice Ao31 t496.length co31 : Value).ownBlock ∧ some k_ ≠ (.slice Ao35 t501.length co35 : Value).ownBlock) ∧ some k_ ≠ (.slice Ao52 t516.length co52 : Value).ownBlock) ∧ some k_ ≠ (.slice Ao60 t523.length co60 : Value).ownBlock)) (n:=t509.length) (c:=co44) ?_).2.2; exact (by (with_reducible repeat (first | apply Kd.R_alloc | apply Kd.R_drewN | apply Kd.R_drew)); exact (Kd.R_mono (Kd.R_far (p:=⟨gb528,1,none⟩) (Kd.R_far (p:=⟨gb528,0,none⟩) (Kd.R_types HO511.out BK528.out (by decide)) (fun _ hk => hk.2) (.slice Ao60 t523.length co60)) (fun _ hk => hk.2) (.int .i64 t526)) (fun _ h_ => h_.1)))); (case side2 => exact (Kd.R_reads' HO511.out).2.1); rintro e w67 ⟨v530,rfl,ho0,hb⟩; refine ⟨_,rfl,?_⟩; have HO531 := Aside0.mk (Kd.R_lower (Kd.R_new' (Kd.R_new' (Kd.R_new' (Kd.R_new' (Kd.R_new' ho0 (Kd.R_lt (by (with_reducible repeat (first | apply Kd.R_alloc | apply Kd.R_drewN | apply Kd.R_drew)); exact (Kd.R_mono (Kd.R_far (p:=⟨gb528,1,none⟩) (Kd.R_far (p:=⟨gb528,0,none⟩) (Kd.R_types HO498.out BK528.out (by decide)) (fun _ hk => hk.2) (.slice Ao60 t523.length co60)) (fun _ hk => hk.2) (.int .i64 t526)) (fun _ h_ => h_.1))))) (Kd.R_lt (by (with_reducible repeat (first | apply Kd.R_alloc | apply Kd.R_drewN | apply Kd.R_drew)); exact (Kd.R_mono (Kd.R_far (p:=⟨gb528,1,none⟩) (Kd.R_far (p:=⟨gb528,0,none⟩) (Kd.R_types HO503.out BK528.out (by decide)) (fun _ hk => hk.2) (.slice Ao60 t523.length co60)) (fun _ hk => hk.2) (.int .i64 t526)) (fun _ h_ => h_.1))))) (Kd.R_lt (by (with_reducible repeat (first | apply Kd.R_alloc | apply Kd.R_drewN | apply Kd.R_drew)); exact (Kd.R_mono (Kd.R_far (p:=⟨gb528,1,none⟩) (Kd.R_far (p:=⟨gb528,0,none⟩) (Kd.R_types HO511.out BK528.out (by decide)) (fun _ hk => hk.2) (.slice Ao60 t523.length co60)) (fun _ hk => hk.2) (.int .i64 t526)) (fun _ h_ => h_.1))))) (Kd.R_lt (by (with_reducible repeat (first | apply Kd.R_alloc | apply Kd.R_drewN | apply Kd.R_drew)); exact (Kd.R_mono (Kd.R_far (p:=⟨gb528,1,none⟩) (Kd.R_far (p:=⟨gb528,0,none⟩) (Kd.R_types HO518.out BK528.out (by decide)) (fun _ hk => hk.2) (.slice Ao60 t523.length co60)) (fun _ hk => hk.2) (.int .i64 t526)) (fun _ h_ => h_.1))))) (Kd.R_lt (by (with_reducible repeat (first | apply Kd.R_alloc | apply Kd.R_drewN | apply Kd.R_drew)); exact (Kd.R_mono (Kd.R_far (p:=⟨gb528,1,none⟩) (Kd.R_far (p:=⟨gb528,0,none⟩) (Kd.R_types HO525.out BK528.out (by decide)) (fun _ hk => hk.2) (.slice Ao60 t523.length co60)) (fun _ hk => hk.2) (.int .i64 t526)) (fun _ h_ => h_.1))))) (below_size bA)); replace HO498 := Aside0.mk (Kd.R_elder' (by (with_reducible repeat (first | apply Kd.R_alloc | apply Kd.R_drewN | apply Kd.R_drew)); exact (Kd.R_mono (Kd.R_far (p:=⟨gb528,1,none⟩) (Kd.R_far (p:=⟨gb528,0,none⟩) (Kd.R_types HO498.out BK528.out (by decide)) (fun _ hk => hk.2) (.slice Ao60 t523.length co60)) (fun _ hk => hk.2) (.int .i64 t526)) (fun _ h_ => h_.1))) (Kd.R_base ho0) hb); replace HO503 := Aside0.mk (Kd.R_elder' (by (with_reducible repeat (first | apply Kd.R_alloc | apply Kd.R_drewN | apply Kd.R_drew)); exact (Kd.R_mono (Kd.R_far (p:=⟨gb528,1,none⟩) (Kd.R_far (p:=⟨gb528,0,none⟩) (Kd.R_types HO503.out BK528.out (by decide)) (fun _ hk => hk.2) (.slice Ao60 t523.length co60)) (fun _ hk => hk.2) (.int .i64 t526)) (fun _ h_ => h_.1))) (Kd.R_base ho0) hb); replace HO511 := Aside0.mk (Kd.R_elder' (by (with_reducible repeat (first | apply Kd.R_alloc | apply Kd.R_drewN | apply Kd.R_drew)); exact (Kd.R_mono (Kd.R_far (p:=⟨gb528,1,none⟩) (Kd.R_far (p:=⟨gb528,0,none⟩) (Kd.R_types HO511.out BK528.out (by decide)) (fun _ hk => hk.2) (.slice Ao60 t523.length co60)) (fun _ hk => hk.2) (.int .i64 t526)) (fun _ h_ => h_.1))) (Kd.R_base ho0) hb); replace HO518 := Aside0.mk (Kd.R_elder' (by (with_reducible repeat (first | apply Kd.R_alloc | apply Kd.R_drewN | apply Kd.R_drew)); exact (Kd.R_mono (Kd.R_far (p:=⟨gb528,1,none⟩) (Kd.R_far (p:=⟨gb528,0,none⟩) (Kd.R_types HO518.out BK528.out (by decide)) (fun _ hk => hk.2) (.slice Ao60 t523.length co60)) (fun _ hk => hk.2) (.int .i64 t526)) (fun _ h_ => h_.1))) (Kd.R_base ho0) hb); replace HO525 := Aside0.mk (Kd.R_elder' (by (with_reducible repeat (first | apply Kd.R_alloc | apply Kd.R_drewN | apply Kd.R_drew)); exact (Kd.R_mono (Kd.R_far (p:=⟨gb528,1,none⟩) (Kd.R_far (p:=⟨gb528,0,none⟩) (Kd.R_types HO525.out BK528.out (by decide)) (fun _ hk => hk.2) (.slice Ao60 t523.length co60)) (fun _ hk => hk.2) (.int .i64 t526)) (fun _ h_ => h_.1))) (Kd.R_base ho0) hb); replace BK500 := Aside0.mk (bc BK500.out hb); replace BK507 := Aside0.mk (bc BK507.out hb); replace BK515 := Aside0.mk (bc BK515.out hb); replace BK522 := Aside0.mk (bc BK522.out hb); replace BK528 := Aside0.mk (blk_below (g:=gb528) (o:=.cells #[.slice Ao60 t523.length co60,.int .i64 t526] 25 (0,0)) (by (with_reducible repeat (first | refine blk_drewN ?_ _ | refine blk_drew ?_ | refine blk_alloc ?_ _)); apply blkp2; (with_reducible repeat (first | refine blk_drewN ?_ _ | refine blk_drew ?_ | refine blk_alloc ?_ _)); exact BK528.out) hb); replace HB := Aside0.mk (below_step bA hb); clear hb; (try clear ho0)) | ((with_reducible refine gate_dst (N:=17) rfl ?_); (try (refine gate_guard (by rfl) ?_; dsimp only)); refine box_event ?hg (N:=17) ?hd (cs := #[.slice none 0 0,.int .i64 0]) (t:=25) ?hr ?_; (case hd => rfl); (case hg => rfl); (case hr => first | (go_simp; done) | (go_simp; rfl)); intro gb535 hg w68 hbox hb; replace HO498 := Aside0.mk (Kd.R_below (rA HO498.out) hb); replace HO503 := Aside0.mk (Kd.R_below (rA HO503.out) hb); replace HO511 := Aside0.mk (Kd.R_below (rA HO511.out) hb); replace HO518 := Aside0.mk (Kd.R_below (rA HO518.out) hb); replace HO525 := Aside0.mk (Kd.R_below (rA HO525.out) hb); replace HO531 := Aside0.mk (Kd.R_below (rA HO531.out) hb); have BK535 := Aside0.mk (hbox); have GW535 := Aside0.mk ((gw hg : w.heap.size ≤ gb535)); have GE535 := Aside0.mk ((gw hg : w.heap.size ≤ gb535)); replace HB := Aside0.mk (below_step bA hb); have NB500_535 := Aside0.mk ((nl hg BK500.out)); have NB535_500 := Aside0.mk ((ng hg BK500.out)); replace BK500 := Aside0.mk (bb BK500.out hb); have NB507_535 := Aside0.mk ((nl hg BK507.out)); have NB535_507 := Aside0.mk ((ng hg BK507.out)); replace BK507 := Aside0.mk (bb BK507.out hb); have NB515_535 := Aside0.mk ((nl hg BK515.out)); have NB535_515 := Aside0.mk ((ng hg BK515.out)); replace BK515 := Aside0.mk (bb BK515.out hb); have NB522_535 := Aside0.mk ((nl hg BK522.out)); have NB535_522 := Aside0.mk ((ng hg BK522.out)); replace BK522 := Aside0.mk (bb BK522.out hb); have NB528_535 := Aside0.mk ((nl hg BK528.out)); have NB535_528 := Aside0.mk ((ng hg BK528.out)); replace BK528 := Aside0.mk (bb BK528.out hb); clear hb hbox hg; obtain ⟨Ao69,co69,eo69⟩ := Kd.R_slice HO531.out; subst eo69; have hnb70 := NB535_500.out; have hnc70 := NB500_535.out; have hnb71 := NB535_507.out; have hnc71 := NB507_535.out; have hnb72 := NB535_515.out; have hnc72 := NB515_535.out; have hnb73 := NB535_522.out; have hnc73 := NB522_535.out; have hnb74 := NB535_528.out; have hnc74 := NB528_535.out; obtain ⟨hcz75_0,hcz75_1⟩ := cl2 BK535.out; obtain ⟨hfz75_0,hfz75_1⟩ := fz2 BK535.out; obtain ⟨hcz76_0,hcz76_1⟩ := cl2 BK515.out; obtain ⟨hfz76_0,hfz76_1⟩ := fz2 BK515.out) | ((with_reducible refine gate_callee (f:=14) rfl ?_); refine goesL_ (some 72) rfl rfl Try.func14 (by kernel_rfl) rfl #[.agg #[.slice Ao44 t509.length co44,.int .i64 t512],.string (⟨#[109,47,49]⟩ : ByteArray)] rfl mA ?_; (with_reducible refine (impl_GetObject.calls kj2 _ _ t509 t512 (⟨#[109,47,49]⟩ : ByteArray) t536 t537 t538 _ ?side1 ?side2 A13.out).mono ?_); (case side1 => refine (Kd.R_reads' (e:=32) (base := w.heap.size) (ok := fun k_ => ((((some k_ ≠ (.slice Ao31 t496.length co31 : Value).ownBlock ∧ some k_ ≠ (.slice Ao35 t501.length co35 : Value).ownBlock) ∧ some k_ ≠ (.slice Ao52 t516.length co52 : Value).ownBlock) ∧ some k_ ≠ (.slice Ao60 t523.length co60 : Value).ownBlock) ∧ some k_ ≠ (.slice Ao69 t529.length co69 : Value).ownBlock)) (n:=t509.length) (c:=co44) ?_).2.2; exact (by (with_reducible repeat (first | apply Kd.R_alloc | apply Kd.R_drewN | apply Kd.R_drew)); exact (Kd.R_mono (Kd.R_far (p:=⟨gb535,1,none⟩) (Kd.R_far (p:=⟨gb535,0,none⟩) (Kd.R_types HO511.out BK535.out (by decide)) (fun _ hk => hk.2) (.slice Ao69 t529.length co69)) (fun _ hk => hk.2) (.int .i64 t532)) (fun _ h_ => h_.1)))); (case side2 => exact (Kd.R_reads' HO511.out).2.1); rintro e w77 ⟨rfl,hb⟩; refine ⟨_,rfl,?_⟩; replace HO498 := Aside0.mk (Kd.R_below (by (with_reducible repeat (first | apply Kd.R_alloc | apply Kd.R_drewN | apply Kd.R_drew)); exact (Kd.R_mono (Kd.R_far (p:=⟨gb535,1,none⟩) (Kd.R_far (p:=⟨gb535,0,none⟩) (Kd.R_types HO498.out BK535.out (by decide)) (fun _ hk => hk.2) (.slice Ao69 t529.length co69)) (fun _ hk => hk.2) (.int .i64 t532)) (fun _ h_ => h_.1))) hb); replace HO503 := Aside0.mk (Kd.R_below (by (with_reducible repeat (first | apply Kd.R_alloc | apply Kd.R_drewN | apply Kd.R_drew)); exact (Kd.R_mono (Kd.R_far (p:=⟨gb535,1,none⟩) (Kd.R_far (p:=⟨gb535,0,none⟩) (Kd.R_types HO503.out BK535.out (by decide)) (fun _ hk => hk.2) (.slice Ao69 t529.length co69)) (fun _ hk => hk.2) (.int .i64 t532)) (fun _ h_ => h_.1))) hb); replace HO511 := Aside0.mk (Kd.R_below (by (with_reducible repeat (first | apply Kd.R_alloc | apply Kd.R_drewN | apply Kd.R_drew)); exact (Kd.R_mono (Kd.R_far (p:=⟨gb535,1,none⟩) (Kd.R_far (p:=⟨gb535,0,none⟩) (Kd.R_types HO511.out BK535.out (by decide)) (fun _ hk => hk.2) (.slice Ao69 t529.length co69)) (fun _ hk => hk.2) (.int .i64 t532)) (fun _ h_ => h_.1))) hb); replace HO518 := Aside0.mk (Kd.R_below (by (with_reducible repeat (first | apply Kd.R_alloc | apply Kd.R_drewN | apply Kd.R_drew)); exact (Kd.R_mono (Kd.R_far (p:=⟨gb535,1,none⟩) (Kd.R_far (p:=⟨gb535,0,none⟩) (Kd.R_types HO518.out BK535.out (by decide)) (fun _ hk => hk.2) (.slice Ao69 t529.length co69)) (fun _ hk => hk.2) (.int .i64 t532)) (fun _ h_ => h_.1))) hb); replace HO525 := Aside0.mk (Kd.R_below (by (with_reducible repeat (first | apply Kd.R_alloc | apply Kd.R_drewN | apply Kd.R_drew)); exact (Kd.R_mono (Kd.R_far (p:=⟨gb535,1,none⟩) (Kd.R_far (p:=⟨gb535,0,none⟩) (Kd.R_types HO525.out BK535.out (by decide)) (fun _ hk => hk.2) (.slice Ao69 t529.length co69)) (fun _ hk => hk.2) (.int .i64 t532)) (fun _ h_ => h_.1))) hb); replace HO531 := Aside0.mk (Kd.R_below (by (with_reducible repeat (first | apply Kd.R_alloc | apply Kd.R_drewN | apply Kd.R_drew)); exact (Kd.R_mono (Kd.R_far (p:=⟨gb535,1,none⟩) (Kd.R_far (p:=⟨gb535,0,none⟩) (Kd.R_types HO531.out BK535.out (by decide)) (fun _ hk => hk.2) (.slice Ao69 t529.length co69)) (fun _ hk => hk.2) (.int .i64 t532)) (fun _ h_ => h_.1))) hb); replace BK500 := Aside0.mk (bc BK500.out hb); replace BK507 := Aside0.mk (bc BK507.out hb); replace BK515 := Aside0.mk (bc BK515.out hb); replace BK522 := Aside0.mk (bc BK522.out hb); replace BK528 := Aside0.mk (bc BK528.out hb); replace BK535 := Aside0.mk (blk_below (g:=gb535) (o:=.cells #[.slice Ao69 t529.length co69,.int .i64 t532] 25 (0,0)) (by (with_reducible repeat (first | refine blk_drewN ?_ _ | refine blk_drew ?_ | refine blk_alloc ?_ _)); apply blkp2; (with_reducible repeat (first | refine blk_drewN ?_ _ | refine blk_drew ?_ | refine blk_alloc ?_ _)); exact BK535.out) hb); replace HB := Aside0.mk (below_step bA hb); clear hb; obtain ⟨hcz78_0,hcz78_1⟩ := cl2 BK515.out; obtain ⟨hfz78_0,hfz78_1⟩ := fz2 BK515.out) | ((with_reducible refine gate_callee (f:=20) rfl ?_); refine goesL_ (some 79) rfl rfl Try.func20 (by kernel_rfl) rfl #[.agg #[.slice Ao44 t509.length co44,.int .i64 t512],.string (⟨#[109,47,50]⟩ : ByteArray),.int .i64 t513,.string (⟨#[101]⟩ : ByteArray)] rfl mA ?_; (with_reducible refine (impl_PutVersion.calls kj2 _ _ t509 t512 (⟨#[109,47,50]⟩ : ByteArray) t513 (⟨#[101]⟩ : ByteArray) t539 t542 t543 t544 _ ?side1 ?side2 A14.out).mono ?_); (case side1 => repeat (first | exact (Kd.R_reads' HO511.out).2.2 | (with_reducible refine Kd.C_alloc ?_ _) | (with_reducible refine Kd.C_drewN ?_ _) | (with_reducible refine Kd.C_drew ?_))); (case side2 => exact (Kd.R_reads' HO511.out).2.1); rintro e w79 ⟨v540,rfl,ho0,hb⟩; refine ⟨_,rfl,?_⟩; have HO541 := Aside0.mk (Kd.R_lower (Kd.R_new' (Kd.R_new' (Kd.R_new' (Kd.R_new' (Kd.R_new' (Kd.R_new' ho0 (Kd.R_lt (rA HO498.out))) (Kd.R_lt (rA HO503.out))) (Kd.R_lt (rA HO511.out))) (Kd.R_lt (rA HO518.out))) (Kd.R_lt (rA HO525.out))) (Kd.R_lt (rA HO531.out))) (below_size bA)); replace HO498 := Aside0.mk (Kd.R_elder' (rA HO498.out) (Kd.R_base ho0) hb); replace HO503 := Aside0.mk (Kd.R_elder' (rA HO503.out) (Kd.R_base ho0) hb); replace HO511 := Aside0.mk (Kd.R_elder' (rA HO511.out) (Kd.R_base ho0) hb); replace HO518 := Aside0.mk (Kd.R_elder' (rA HO518.out) (Kd.R_base ho0) hb); replace HO525 := Aside0.mk (Kd.R_elder' (rA HO525.out) (Kd.R_base ho0) hb); replace HO531 := Aside0.mk (Kd.R_elder' (rA HO531.out) (Kd.R_base ho0) hb); replace BK500 := Aside0.mk (bb BK500.out hb); replace BK507 := Aside0.mk (bb BK507.out hb); replace BK515 := Aside0.mk (bb BK515.out hb); replace BK522 := Aside0.mk (bb BK522.out hb); replace BK528 := Aside0.mk (bb BK528.out hb); replace BK535 := Aside0.mk (bb BK535.out hb); replace HB := Aside0.mk (below_step bA hb); clear hb; (try clear ho0)) | ((with_reducible refine gate_dst (N:=23) rfl ?_); (try (refine gate_guard (by rfl) ?_; dsimp only)); refine box_event ?hg (N:=23) ?hd (cs := #[.slice none 0 0,.int .i64 0]) (t:=25) ?hr ?_; (case hd => rfl); (case hg => rfl); (case hr => first | (go_simp; done) | (go_simp; rfl)); intro gb545 hg w80 hbox hb; replace HO498 := Aside0.mk (Kd.R_below (rA HO498.out) hb); replace HO503 := Aside0.mk (Kd.R_below (rA HO503.out) hb); replace HO511 := Aside0.mk (Kd.R_below (rA HO511.out) hb); replace HO518 := Aside0.mk (Kd.R_below (rA HO518.out) hb); replace HO525 := Aside0.mk (Kd.R_below (rA HO525.out) hb); replace HO531 := Aside0.mk (Kd.R_below (rA HO531.out) hb); replace HO541 := Aside0.mk (Kd.R_below (rA HO541.out) hb); have BK545 := Aside0.mk (hbox); have GW545 := Aside0.mk ((gw hg : w.heap.size ≤ gb545)); have GE545 := Aside0.mk ((gw hg : w.heap.size ≤ gb545)); replace HB := Aside0.mk (below_step bA hb); have NB500_545 := Aside0.mk ((nl hg BK500.out)); have NB545_500 := Aside0.mk ((ng hg BK500.out)); replace BK500 := Aside0.mk (bb BK500.out hb); have NB507_545 := Aside0.mk ((nl hg BK507.out)); have NB545_507 := Aside0.mk ((ng hg BK507.out)); replace BK507 := Aside0.mk (bb BK507.out hb); have NB515_545 := Aside0.mk ((nl hg BK515.out)); have NB545_515 := Aside0.mk ((ng hg BK515.out)); replace BK515 := Aside0.mk (bb BK515.out hb); have NB522_545 := Aside0.mk ((nl hg BK522.out)); have NB545_522 := Aside0.mk ((ng hg BK522.out)); replace BK522 := Aside0.mk (bb BK522.out hb); have NB528_545 := Aside0.mk ((nl hg BK528.out)); have NB545_528 := Aside0.mk ((ng hg BK528.out)); replace BK528 := Aside0.mk (bb BK528.out hb); have NB535_545 := Aside0.mk ((nl hg BK535.out)); have NB545_535 := Aside0.mk ((ng hg BK535.out)); replace BK535 := Aside0.mk (bb BK535.out hb); clear hb hbox hg; obtain ⟨Ao81,co81,eo81⟩ := Kd.R_slice HO541.out; subst eo81; have hnb82 := NB545_500.out; have hnc82 := NB500_545.out; have hnb83 := NB545_507.out; have hnc83 := NB507_545.out; have hnb84 := NB545_515.out; have hnc84 := NB515_545.out; have hnb85 := NB545_522.out; have hnc85 := NB522_545.out; have hnb86 := NB545_528.out; have hnc86 := NB528_545.out; have hnb87 := NB545_535.out; have hnc87 := NB535_545.out; obtain ⟨hcz88_0,hcz88_1⟩ := cl2 BK545.out; obtain ⟨hfz88_0,hfz88_1⟩ := fz2 BK545.out; obtain ⟨hcz89_0,hcz89_1⟩ := cl2 BK522.out; obtain ⟨hfz89_0,hfz89_1⟩ := fz2 BK522.out; obtain ⟨hcz90_0,hcz90_1⟩ := cl2 BK515.out; obtain ⟨hfz90_0,hfz90_1⟩ := fz2 BK515.out) | (go_at_call 16; (with_reducible refine (laws_sameStore.calls kj2 _ _ t516 t519 _ _ t509 t512 true _ ?side1 ?side2 ?side3 ?side4 A19.out).mono ?_); (case side1 => refine (Kd.R_reads' (e:=32) (base := w.heap.size) (ok := fun k_ => ((((((True ∧ some k_ ≠ (.slice Ao31 t496.length co31 : Value).ownBlock) ∧ some k_ ≠ (.slice Ao35 t501.length co35 : Value).ownBlock) ∧ some k_ ≠ (.slice Ao44 t509.length co44 : Value).ownBlock) ∧ some k_ ≠ (.slice Ao60 t523.length co60 : Value).ownBlock) ∧ some k_ ≠ (.slice Ao69 t529.length co69 : Value).ownBlock) ∧ some k_ ≠ (.slice Ao81 t539.length co81 : Value).ownBlock)) (n:=t516.length) (c:=co52) ?_).2.2; exact (by (with_reducible repeat (first | apply Kd.R_alloc | apply Kd.R_drewN | apply Kd.R_drew)); exact (Kd.R_mono (Kd.R_far (p:=⟨gb545,1,none⟩) (Kd.R_far (p:=⟨gb545,0,none⟩) (Kd.R_types HO518.out BK545.out (by decide)) (fun _ hk => hk.2) (.slice Ao81 t539.length co81)) (fun _ hk => hk.2) (.int .i64 t542)) (fun _ h_ => h_.1)))); (case side2 => exact (Kd.R_reads' HO518.out).2.1); (case side3 => refine (Kd.R_reads' (e:=32) (base := w.heap.size) (ok := fun k_ => (((((some k_ ≠ (.slice Ao31 t496.length co31 : Value).ownBlock ∧ some k_ ≠ (.slice Ao35 t501.length co35 : Value).ownBlock) ∧ some k_ ≠ (.slice Ao52 t516.length co52 : Value).ownBlock) ∧ some k_ ≠ (.slice Ao60 t523.length co60 : Value).ownBlock) ∧ some k_ ≠ (.slice Ao69 t529.length co69 : Value).ownBlock) ∧ some k_ ≠ (.slice Ao81 t539.length co81 : Value).ownBlock)) (n:=t509.length) (c:=co44) ?_).2.2; exact (by (with_reducible repeat (first | apply Kd.R_alloc | apply Kd.R_drewN | apply Kd.R_drew)); exact (Kd.R_mono (Kd.R_far (p:=⟨gb545,1,none⟩) (Kd.R_far (p:=⟨gb545,0,none⟩) (Kd.R_types HO511.out BK545.out (by decide)) (fun _ hk => hk.2) (.slice Ao81 t539.length co81)) (fun _ hk => hk.2) (.int .i64 t542)) (fun _ h_ => h_.1)))); (case side4 => exact (Kd.R_reads' HO511.out).2.1); rintro e w91 ⟨rfl,hb⟩; replace HO498 := Aside0.mk (Kd.R_below (by (with_reducible repeat (first | apply Kd.R_alloc | apply Kd.R_drewN | apply Kd.R_drew)); exact (Kd.R_mono (Kd.R_far (p:=⟨gb545,1,none⟩) (Kd.R_far (p:=⟨gb545,0,none⟩) (Kd.R_types HO498.out BK545.out (by decide)) (fun _ hk => hk.2) (.slice Ao81 t539.length co81)) (fun _ hk => hk.2) (.int .i64 t542)) (fun _ h_ => h_.1))) hb); replace HO503 := Aside0.mk (Kd.R_below (by (with_reducible repeat (first | apply Kd.R_alloc | apply Kd.R_drewN | apply Kd.R_drew)); exact (Kd.R_mono (Kd.R_far (p:=⟨gb545,1,none⟩) (Kd.R_far (p:=⟨gb545,0,none⟩) (Kd.R_types HO503.out BK545.out (by decide)) (fun _ hk => hk.2) (.slice Ao81 t539.length co81)) (fun _ hk => hk.2) (.int .i64 t542)) (fun _ h_ => h_.1))) hb); replace HO511 := Aside0.mk (Kd.R_below (by (with_reducible repeat (first | apply Kd.R_alloc | apply Kd.R_drewN | apply Kd.R_drew)); exact (Kd.R_mono (Kd.R_far (p:=⟨gb545,1,none⟩) (Kd.R_far (p:=⟨gb545,0,none⟩) (Kd.R_types HO511.out BK545.out (by decide)) (fun _ hk => hk.2) (.slice Ao81 t539.length co81)) (fun _ hk => hk.2) (.int .i64 t542)) (fun _ h_ => h_.1))) hb); replace HO518 := Aside0.mk (Kd.R_below (by (with_reducible repeat (first | apply Kd.R_alloc | apply Kd.R_drewN | apply Kd.R_drew)); exact (Kd.R_mono (Kd.R_far (p:=⟨gb545,1,none⟩) (Kd.R_far (p:=⟨gb545,0,none⟩) (Kd.R_types HO518.out BK545.out (by decide)) (fun _ hk => hk.2) (.slice Ao81 t539.length co81)) (fun _ hk => hk.2) (.int .i64 t542)) (fun _ h_ => h_.1))) hb); replace HO525 := Aside0.mk (Kd.R_below (by (with_reducible repeat (first | apply Kd.R_alloc | apply Kd.R_drewN | apply Kd.R_drew)); exact (Kd.R_mono (Kd.R_far (p:=⟨gb545,1,none⟩) (Kd.R_far (p:=⟨gb545,0,none⟩) (Kd.R_types HO525.out BK545.out (by decide)) (fun _ hk => hk.2) (.slice Ao81 t539.length co81)) (fun _ hk => hk.2) (.int .i64 t542)) (fun _ h_ => h_.1))) hb); replace HO531 := Aside0.mk (Kd.R_below (by (with_reducible repeat (first | apply Kd.R_alloc | apply Kd.R_drewN | apply Kd.R_drew)); exact (Kd.R_mono (Kd.R_far (p:=⟨gb545,1,none⟩) (Kd.R_far (p:=⟨gb545,0,none⟩) (Kd.R_types HO531.out BK545.out (by decide)) (fun _ hk => hk.2) (.slice Ao81 t539.length co81)) (fun _ hk => hk.2) (.int .i64 t542)) (fun _ h_ => h_.1))) hb); replace HO541 := Aside0.mk (Kd.R_below (by (with_reducible repeat (first | apply Kd.R_alloc | apply Kd.R_drewN | apply Kd.R_drew)); exact (Kd.R_mono (Kd.R_far (p:=⟨gb545,1,none⟩) (Kd.R_far (p:=⟨gb545,0,none⟩) (Kd.R_types HO541.out BK545.out (by decide)) (fun _ hk => hk.2) (.slice Ao81 t539.length co81)) (fun _ hk => hk.2) (.int .i64 t542)) (fun _ h_ => h_.1))) hb); replace BK500 := Aside0.mk (bc BK500.out hb); replace BK507 := Aside0.mk (bc BK507.out hb); replace BK515 := Aside0.mk (bc BK515.out hb); replace BK522 := Aside0.mk (bc BK522.out hb); replace BK528 := Aside0.mk (bc BK528.out hb); replace BK535 := Aside0.mk (bc BK535.out hb); replace BK545 := Aside0.mk (blk_below (g:=gb545) (o:=.cells #[.slice Ao81 t539.length co81,.int .i64 t542] 25 (0,0)) (by (with_reducible repeat (first | refine blk_drewN ?_ _ | refine blk_drew ?_ | refine blk_alloc ?_ _)); apply blkp2; (with_reducible repeat (first | refine blk_drewN ?_ _ | refine blk_drew ?_ | refine blk_alloc ?_ _)); exact BK545.out) hb); replace HB := Aside0.mk (below_step bA hb); clear hb; obtain ⟨hcz92_0,hcz92_1⟩ := cl2 BK528.out; obtain ⟨hfz92_0,hfz92_1⟩ := fz2 BK528.out; obtain ⟨hcz93_0,hcz93_1⟩ := cl2 BK515.out; obtain ⟨hfz93_0,hfz93_1⟩ := fz2 BK515.out) | (go_at_call 16; (with_reducible refine (laws_sameStore.calls kj2 _ _ t523 t526 _ _ t509 t512 true _ ?side1 ?side2 ?side3 ?side4 A22.out).mono ?_); (case side1 => repeat (first | exact (Kd.R_reads' HO525.out).2.2 | (with_reducible refine Kd.C_alloc ?_ _) | (with_reducible refine Kd.C_drewN ?_ _) | (with_reducible refine Kd.C_drew ?_))); (case side2 => exact (Kd.R_reads' HO525.out).2.1); (case side3 => repeat (first | exact (Kd.R_reads' HO511.out).2.2 | (with_reducible refine Kd.C_alloc ?_ _) | (with_reducible refine Kd.C_drewN ?_ _) | (with_reducible refine Kd.C_drew ?_))); (case side4 => exact (Kd.R_reads' HO511.out).2.1); rintro e w94 ⟨rfl,hb⟩; replace HO498 := Aside0.mk (Kd.R_below (rA HO498.out) hb); replace HO503 := Aside0.mk (Kd.R_below (rA HO503.out) hb); replace HO511 := Aside0.mk (Kd.R_below (rA HO511.out) hb); replace HO518 := Aside0.mk (Kd.R_below (rA HO518.out) hb); replace HO525 := Aside0.mk (Kd.R_below (rA HO525.out) hb); replace HO531 := Aside0.mk (Kd.R_below (rA HO531.out) hb); replace HO541 := Aside0.mk (Kd.R_below (rA HO541.out) hb); replace BK500 := Aside0.mk (bb BK500.out hb); replace BK507 := Aside0.mk (bb BK507.out hb); replace BK515 := Aside0.mk (bb BK515.out hb); replace BK522 := Aside0.mk (bb BK522.out hb); replace BK528 := Aside0.mk (bb BK528.out hb); replace BK535 := Aside0.mk (bb BK535.out hb); replace BK545 := Aside0.mk (bb BK545.out hb); replace HB := Aside0.mk (below_step bA hb); clear hb) | (go_at_call 11; (with_reducible refine (spec_TextOf.calls kj2 _ _ l1 3 t548 _ ?side1 ?side2 A26.out).mono ?_); (case side1 => exact sC HR1.out); (case side2 => exact HC1.out); rintro e w95 ⟨rfl,hb⟩; replace HO498 := Aside0.mk (Kd.R_below (rA HO498.out) hb); replace HO503 := Aside0.mk (Kd.R_below (rA HO503.out) hb); replace HO511 := Aside0.mk (Kd.R_below (rA HO511.out) hb); replace HO518 := Aside0.mk (Kd.R_below (rA HO518.out) hb); replace HO525 := Aside0.mk (Kd.R_below (rA HO525.out) hb); replace HO531 := Aside0.mk (Kd.R_below (rA HO531.out) hb); replace HO541 := Aside0.mk (Kd.R_below (rA HO541.out) hb); replace BK500 := Aside0.mk (bb BK500.out hb); replace BK507 := Aside0.mk (bb BK507.out hb); replace BK515 := Aside0.mk (bb BK515.out hb); replace BK522 := Aside0.mk (bb BK522.out hb); replace BK528 := Aside0.mk (bb BK528.out hb); replace BK535 := Aside0.mk (bb BK535.out hb); replace BK545 := Aside0.mk (bb BK545.out hb); replace HB := Aside0.mk (below_step bA hb); clear hb))
               go_ret
               exact ⟨by first | rfl | (simp [errW_none,errW_some] <;> rfl) | (simp [*,errW_none,errW_some] <;> rfl),bA⟩
              ·rw [if_neg c28] at H
               exact absurd H (by simp)
             ·rw [if_neg c27] at H
              exact absurd H (by simp)
            ·rw [if_neg c25] at H
             exact absurd H (by simp)
           ·rw [if_neg c24] at H
            exact absurd H (by simp)
          ·replace c23 := Bool.eq_false_iff.mpr c23
           subst c23
           rw [if_neg (show ¬ (false = true) by decide)] at H
           exact absurd H (by simp)
         ·rw [if_neg c21] at H
          exact absurd H (by simp)
        ·replace c20 := Bool.eq_false_iff.mpr c20
         subst c20
         rw [if_neg (show ¬ (false = true) by decide)] at H
         exact absurd H (by simp)
       ·rw [if_neg c18] at H
        exact absurd H (by simp)
     ·rw [if_neg c16] at H
      exact absurd H (by simp)
    ·rw [if_neg c15] at H
     exact absurd H (by simp)

end Go.Proofs.Ytgkfemnfbkgeiaa.XFnCas
