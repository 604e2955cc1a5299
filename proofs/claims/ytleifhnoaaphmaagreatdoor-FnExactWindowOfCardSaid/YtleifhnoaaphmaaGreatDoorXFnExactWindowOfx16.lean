-- Printed by this session's own program wip/tools/xprint.py, which widens the kit's print. Not trusted: Lean checks it.
import Derived.Test.YtleifhnoaaphmaaGreatDoorXFnExactWindowOfx0
import Derived.Test.YtleifhnoaaphmaaGreatDoorXFnExactWindowOfx11
import Derived.Test.YtleifhnoaaphmaaGreatDoorXFnExactWindowOfx12
import Derived.Test.YtleifhnoaaphmaaGreatDoorXFnExactWindowOfx13
import Derived.Test.YtleifhnoaaphmaaGreatDoorXFnExactWindowOfx14
import Derived.Test.YtleifhnoaaphmaaGreatDoorXFnExactWindowOfx15
namespace Go.Proofs.YtleifhnoaaphmaaGreatDoor.XFnExactWindowOf
open Go.RowKit Go.Proofs.YtleifhnoaaphmaaGreatDoorW.PrintWords Go.Proofs.YtleifhnoaaphmaaGreatDoorW.PrintLast Go.Proofs.YtleifhnoaaphmaaGreatDoorW.PrintMore
attribute [local go_sem] max2_int min2_int max_two min_two max_three min_three max_four min_four   -- for this text's walks alone
set_option linter.unusedVariables false
set_option linter.unusedSimpArgs false

/-! ### impl_readBuckets: function 30 -/
def impl_readBuckets.l0 : Nat → List (S75) → List ByteArray → Int → Int → Option ((List (S75)) × Bool)
 | 0,_,_,_,_ => none
 | k + 1,x4,x16,x17,x18 => if x18 < x17 then (if 0 ≤ x18 then (if x18 < (x16.length : Int) then ((strings_Cut.f (rdOf ByteArray.empty x16 x18) (⟨#[58]⟩ : ByteArray)).bind fun bt462 => ((impl_number.f bt462.1).bind fun bt465 => ((impl_readAgg.f k bt462.2.1).bind fun bt467 => (if bt462.2.2 = true then (if bt465.2 = true then (if bt467.2.2.2.2.2.2 = true then (if x4.length < 2513169434916 then (impl_readBuckets.l0 k (x4 ++ [(⟨bt465.1,(⟨bt467.1,bt467.2.1,bt467.2.2.1,bt467.2.2.2.1,bt467.2.2.2.2.1,bt467.2.2.2.2.2.1⟩ : S26)⟩ : S75)]) x16 x17 (wrap64 (x18 + 1))) else (none)) else (some (([] : List (S75)),false))) else (some (([] : List (S75)),false))) else (some (([] : List (S75)),false)))))) else (none)) else (none)) else ((impl_BucketsOK.f k x4).bind fun t460 => (some (x4,t460)))
def impl_readBuckets.f (k : Nat) (a0 : ByteArray) : Option ((List (S75)) × Bool) := (impl_parts.f a0).bind fun t457 => (impl_readBuckets.l0 k (([] : List (S75))) t457 (t457.length : Int) 0)
theorem impl_readBuckets.mono_l : ∀ k,(∀ y0 y1 y2 y3,LeO (impl_readBuckets.l0 k y0 y1 y2 y3) (impl_readBuckets.l0 (k + 1) y0 y1 y2 y3))
 | 0 => fun _ _ _ _ r h => by simp [impl_readBuckets.l0] at h
 | k + 1 => by
  have ih0 := impl_readBuckets.mono_l k
  ·intro y0 y1 y2 y3
   unfold impl_readBuckets.l0
   repeat' first
   | (with_reducible exact ih0 _ _ _ _)
   | (with_reducible exact impl_BucketsOK.mono _ _)
   | (with_reducible exact impl_readAgg.mono _ _)
   | (with_reducible exact LeO.refl _)
   | (with_reducible exact LeO.none _)
   | (with_reducible refine LeO.ite ?_ ?_)
   | (with_reducible refine LeO.bind ?_ (fun _ => ?_))
   | exact ih0 _ _ _ _
   | exact impl_BucketsOK.mono _ _
   | exact impl_readAgg.mono _ _
   | exact LeO.none _
   | refine LeO.ite ?_ ?_
   | refine LeO.bind ?_ (fun _ => ?_)
theorem impl_readBuckets.mono : ∀ a0 k,LeO (impl_readBuckets.f k a0) (impl_readBuckets.f (k + 1) a0) := by
 intro a0 k
 have ih0 := impl_readBuckets.mono_l k
 unfold impl_readBuckets.f
 repeat' first
   | (with_reducible exact ih0 _ _ _ _)
   | (with_reducible exact impl_BucketsOK.mono _ _)
   | (with_reducible exact impl_readAgg.mono _ _)
   | (with_reducible exact LeO.refl _)
   | (with_reducible exact LeO.none _)
   | (with_reducible refine LeO.ite ?_ ?_)
   | (with_reducible refine LeO.bind ?_ (fun _ => ?_))
   | exact ih0 _ _ _ _
   | exact impl_BucketsOK.mono _ _
   | exact impl_readAgg.mono _ _
   | exact LeO.none _
   | refine LeO.ite ?_ ?_
   | refine LeO.bind ?_ (fun _ => ?_)
set_option maxHeartbeats 8000000 in
set_option maxRecDepth 100000 in
theorem impl_readBuckets.calls (k : Nat) (a0 : ByteArray) (r1 : List (S75)) (r2 : Bool) (w : World) (hV : Vars w) (h : impl_readBuckets.f k a0 = some (r1,r2)) :
  Calls Tryz.prog 30 #[.string a0] w fun e w' => ∃ v0_ : Value,e = .returned (.tuple #[v0_,.bool r2]) ∧ Kd.R k75 75 w' w.heap.size (fun _ => True) v0_ r1 ∧ Below w.heap.size w w' := by
 have hu26 := Tryz.underlying26
 have hu75 := Tryz.underlying75
 have HV := Aside0.mk hV
 clear hV
 have HB := Aside0.mk (Below.refl w.heap.size w)
 have H : ((impl_parts.f a0).bind fun t457 => (impl_readBuckets.l0 k (([] : List (S75))) t457 (t457.length : Int) 0)) = some (r1,r2) := h
 clear h
 obtain ⟨y454,hy454⟩ : ∃ y_ : List (S75),y_ = (([] : List (S75))) := ⟨_,rfl⟩
 replace H : ((impl_parts.f a0).bind fun t457 => (impl_readBuckets.l0 k y454 t457 (t457.length : Int) 0)) = some (r1,r2) := by first | (rw [hy454]; with_reducible exact H) | (have H2_ := (Option.bind_some _ _).symm.trans H; rw [hy454]; with_reducible exact H2_) | (have H2_ := (Option.bind_some _ _).symm.trans H; with_reducible exact H2_) | with_reducible exact H | (rw [hy454]; exact H) | exact H
 have Ny454 := Aside0.mk hy454
 clear hy454
 replace H := Option.bind_eq_some_iff.mp H
 obtain ⟨t457,A20,H⟩ := H
 try dsimp only at H
 have A2 := Aside0.mk A20
 clear A20
 have H' := Aside0.mk H
 clear H
 go_enter Tryz.func30,Tryz.ntmps30
 go_wp2_with (first | ((with_reducible refine gate_dst (N:=14) rfl ?_); refine Kd.R_lit k75 _ 75 ?hg (N:=14) ?hd (xs := ([] : List (S75))) (inner := []) (ok := fun _ => True) (okp := fun _ => True) ?hr ?hp (fun _ hk => hk) trivial (Below.refl _ _) (Nat.le_refl _) (by simp) ?_; (case hd => rfl); (case hg => rfl); (case hr => first | (go_simp; done) | (go_simp; rfl)); (case hp => exact (Reps.none _ _)); intro v455 w3 ho4 hb hg_ hnew_; clear hg_ hnew_; (first | rw [← Ny454.out] at ho4 | (simp only [Int.reduceToNat] at ho4; rw [← Ny454.out] at ho4)); have n0_ := Aside0.mk (Kd.R_lower ho4 (below_size bA)); have n1_ := Aside0.mk (below_step bA hb); clear HB; have HO456 := n0_; have HB := n1_; clear n0_ n1_; clear hb ho4) | ((with_reducible refine gate_callee (f:=48) rfl ?_); refine goesL_ (some 16) rfl rfl Tryz.func48 (by kernel_rfl) rfl #[.string a0] rfl mA ?_; (with_reducible refine (impl_parts.calls a0 t457 _ ?side1 A2.out).mono ?_); (case side1 => exact HV.out.below bA); rintro e w5 ⟨v458,rfl,ho0,hb⟩; refine ⟨_,rfl,?_⟩; have n0_ := Aside0.mk (Kd.R_below (rA HO456.out) hb); have n1_ := Aside0.mk (Kd.R_lower ho0 (below_size bA)); have n2_ := Aside0.mk (below_step bA hb); clear HO456; clear HB; have HO456 := n0_; have HO459 := n1_; have HB := n2_; clear n0_ n1_ n2_; (try clear hb); (try clear hb2); (try clear hk); (try clear hi); (try clear ho0); obtain ⟨Ao6,co6,eo6⟩ := Kd.R_slice HO459.out; subst eo6))
 go_loopg [4,18] k (fun kq v4 v18 w' => ∃ (x4_1 : List (S75)) (x18_1 : Int),v18 = .int .i64 x18_1 ∧ Aside0 (impl_readBuckets.l0 kq x4_1 t457 (t457.length : Int) x18_1 = some (r1,r2)) ∧ Aside0 (kq ≤ k) ∧ Aside0 (Kd.R k75 75 w' w.heap.size (fun _ => True) v4 x4_1) ∧ Aside0 (Kd.R Kd.string 9 w' w.heap.size (fun _ => True) (.slice Ao6 t457.length co6) t457) ∧ Aside0 (Below w.heap.size w w'))
 case atStart => exact ⟨(y454),(0),(by first | rfl | (simp; done) | (simp [*]; done)),H',⟨Nat.le_refl _⟩,⟨rA HO456.out⟩,⟨rA HO459.out⟩,⟨bA⟩⟩
 case round =>
  clear H'
  try clear p2
  try clear c3
  try clear c4
  obtain ⟨x4_1,x18_1,rfl,HA,HK1,HO_4,HO_16,HB⟩ := hrel
  cases gk with
  | zero => exact absurd HA.out (by simp [impl_readBuckets.l0])
  | succ k1 =>
   have H := HA.out
   clear HA
   simp only [impl_readBuckets.l0] at H
   by_cases c7 : x18_1 < (t457.length : Int)
   ·rw [if_pos c7] at H
    have c7b0 : decide (x18_1 < (t457.length : Int)) = true := decide_eq_true c7
    clear c7
    by_cases c8 : 0 ≤ x18_1
    ·rw [if_pos c8] at H
     have c8b0 : decide (0 ≤ x18_1) = true := decide_eq_true c8
     clear c8
     by_cases c9 : x18_1 < (t457.length : Int)
     ·rw [if_pos c9] at H
      have c9b0 : decide (x18_1 < (t457.length : Int)) = true := decide_eq_true c9
      clear c9
      replace H := Option.bind_eq_some_iff.mp H
      obtain ⟨⟨t462,t463,t464⟩,A100,H⟩ := H
      try dsimp only at H
      have A10 := Aside0.mk A100
      clear A100
      replace H := Option.bind_eq_some_iff.mp H
      obtain ⟨⟨t465,t466⟩,A110,H⟩ := H
      try dsimp only at H
      have A11 := Aside0.mk A110
      clear A110
      replace H := Option.bind_eq_some_iff.mp H
      obtain ⟨⟨t467,t468,t469,t470,t471,t472,t473⟩,A120,H⟩ := H
      try dsimp only at H
      have A12 := Aside0.mk A120
      clear A120
      by_cases c13 : t464 = true
      ·subst c13
       rw [if_pos rfl] at H
       by_cases c14 : t466 = true
       ·subst c14
        rw [if_pos rfl] at H
        by_cases c15 : t473 = true
        ·subst c15
         rw [if_pos rfl] at H
         by_cases c16 : x4_1.length < 2513169434916
         ·rw [if_pos c16] at H
          have LMc16 := Aside0.mk c16
          clear c16
          obtain ⟨y475,hy475⟩ : ∃ y_ : List (S75),y_ = (x4_1 ++ [(⟨t465,(⟨t467,t468,t469,t470,t471,t472⟩ : S26)⟩ : S75)]) := ⟨_,rfl⟩
          replace H : (impl_readBuckets.l0 k1 y475 t457 (t457.length : Int) (wrap64 (x18_1 + 1))) = some (r1,r2) := by first | (rw [hy475]; with_reducible exact H) | (have H2_ := (Option.bind_some _ _).symm.trans H; rw [hy475]; with_reducible exact H2_) | (have H2_ := (Option.bind_some _ _).symm.trans H; with_reducible exact H2_) | with_reducible exact H | (rw [hy475]; exact H) | exact H
          have Ny475 := Aside0.mk hy475
          clear hy475
          have H' := Aside0.mk H
          clear H
          have p461 : 0 ≤ (x18_1 : Int) := od
          have q461 : x18_1 < (t457.length : Int) := od
          obtain ⟨ad461,e461,hx461_0⟩ := Kd.at_string (Kd.R_reads' HO_16.out).2.2 x18_1 p461 q461
          cases e461
          replace p461 := eq_true p461
          replace q461 := eq_true q461
          go_wp2_with (first | ((with_reducible refine gate_callee (f:=53) rfl ?_); refine goesL_ (some 24) rfl rfl Tryz.func53 (by kernel_rfl) rfl #[.string (rdOf ByteArray.empty t457 x18_1),.string (⟨#[58]⟩ : ByteArray)] rfl mA ?_; (with_reducible refine (strings_Cut.calls (rdOf ByteArray.empty t457 x18_1) (⟨#[58]⟩ : ByteArray) t462 t463 true _ ?side1 A10.out).mono ?_); (case side1 => exact HV.out.below bA); rintro e w17 ⟨rfl,hb⟩; refine ⟨_,rfl,?_⟩; have n0_ := Aside0.mk (Kd.R_below (rA HO_4.out) hb); have n1_ := Aside0.mk (Kd.R_below (rA HO_16.out) hb); have n2_ := Aside0.mk (below_step bA hb); clear HO_4; clear HO_16; clear HB; have HO_4 := n0_; have HO_16 := n1_; have HB := n2_; clear n0_ n1_ n2_; (try clear hb); (try clear hb2); (try clear hk); (try clear hi)) | ((with_reducible refine gate_callee (f:=54) rfl ?_); refine goesL_ (some 30) rfl rfl Tryz.func54 (by kernel_rfl) rfl #[.string t462] rfl mA ?_; (with_reducible refine (impl_number.calls t462 t465 true _ ?side1 A11.out).mono ?_); (case side1 => exact HV.out.below bA); rintro e w18 ⟨rfl,hb⟩; refine ⟨_,rfl,?_⟩; have n0_ := Aside0.mk (Kd.R_below (rA HO_4.out) hb); have n1_ := Aside0.mk (Kd.R_below (rA HO_16.out) hb); have n2_ := Aside0.mk (below_step bA hb); clear HO_4; clear HO_16; clear HB; have HO_4 := n0_; have HO_16 := n1_; have HB := n2_; clear n0_ n1_ n2_; (try clear hb); (try clear hb2); (try clear hk); (try clear hi)) | ((with_reducible refine gate_callee (f:=55) rfl ?_); refine goesL_ (some 35) rfl rfl Tryz.func55 (by kernel_rfl) rfl #[.string t463] rfl mA ?_; (with_reducible refine (impl_readAgg.calls k1 t463 t467 t468 t469 t470 t471 t472 true _ ?side1 A12.out).mono ?_); (case side1 => exact HV.out.below bA); rintro e w19 ⟨rfl,hb⟩; refine ⟨_,rfl,?_⟩; have n0_ := Aside0.mk (Kd.R_below (rA HO_4.out) hb); have n1_ := Aside0.mk (Kd.R_below (rA HO_16.out) hb); have n2_ := Aside0.mk (below_step bA hb); clear HO_4; clear HO_16; clear HB; have HO_4 := n0_; have HO_16 := n1_; have HB := n2_; clear n0_ n1_ n2_; (try clear hb); (try clear hb2); (try clear hk); (try clear hi)) | ((with_reducible refine gate_dst (N:=12) rfl ?_); refine box_event ?hg (N:=12) ?hd (cs := #[.int .i64 0,.int .i64 0,.int .i64 0,.int .i64 0,.int .i64 0,.int .i64 0]) (t:=26) ?hr ?_; (case hd => rfl); (case hg => rfl); (case hr => first | (go_simp; done) | (go_simp; rfl)); intro gb474 hg w20 hbox hb; have n0_ := Aside0.mk (Kd.R_below (rA HO_4.out) hb); have n1_ := Aside0.mk (Kd.R_below (rA HO_16.out) hb); have n2_ := Aside0.mk (below_step bA hb); have n3_ := Aside0.mk (hbox); have n4_ := Aside0.mk ((gw hg : w.heap.size ≤ gb474)); have n5_ := Aside0.mk ((gw hg : w.heap.size ≤ gb474)); clear HO_4; clear HO_16; clear HB; have HO_4 := n0_; have HO_16 := n1_; have HB := n2_; have BK474 := n3_; have GW474 := n4_; have GE474 := n5_; clear n0_ n1_ n2_ n3_ n4_ n5_; clear hb hbox hg; have hcz21_0 : w20.cell? ⟨gb474,0,none⟩ = some (.int .i64 0) := (blk_cell BK474.out 0).trans rfl; have hcz21_1 : w20.cell? ⟨gb474,1,none⟩ = some (.int .i64 0) := (blk_cell BK474.out 1).trans rfl; have hcz21_2 : w20.cell? ⟨gb474,2,none⟩ = some (.int .i64 0) := (blk_cell BK474.out 2).trans rfl; have hcz21_3 : w20.cell? ⟨gb474,3,none⟩ = some (.int .i64 0) := (blk_cell BK474.out 3).trans rfl; have hcz21_4 : w20.cell? ⟨gb474,4,none⟩ = some (.int .i64 0) := (blk_cell BK474.out 4).trans rfl; have hcz21_5 : w20.cell? ⟨gb474,5,none⟩ = some (.int .i64 0) := (blk_cell BK474.out 5).trans rfl; have hfz21_0 := blk_frozen BK474.out 0; have hfz21_1 := blk_frozen BK474.out 1; have hfz21_2 := blk_frozen BK474.out 2; have hfz21_3 := blk_frozen BK474.out 3; have hfz21_4 := blk_frozen BK474.out 4; have hfz21_5 := blk_frozen BK474.out 5) | ((with_reducible refine gate_builtin (b:=.append) (xs := #[.tmp 48,.tmp 52]) rfl ?_); at_builtin; refine Kd.R_append k75 (w0 := w) w.heap.size rfl (.tmp 48) (.tmp 52) 51 75 (.agg #[(.int .i64 0),(.int .i64 0),(.int .i64 0),(.int .i64 0),(.int .i64 0),(.int .i64 0),(.int .i64 0)]) 56 rfl Tryz.underlying51 info75 rfl (by decide) (by omega) u4 x4_1 (⟨t465,(⟨t467,t468,t469,t470,t471,t472⟩ : S26)⟩ : S75) [.int .i64 t465,.int .i64 t467,.int .i64 t468,.int .i64 t469,.int .i64 t470,.int .i64 t471,.int .i64 t472] (fun _ => True) (fun _ => False) rfl (by first | (go_simp; done) | (go_simp; rfl)) ?aP (fun _ hk => hk.elim) ?aF ?aO ?aB ?aS ?aL ?_; (case aP => exact k75_mkM _ _ _ (⟨t465,(⟨t467,t468,t469,t470,t471,t472⟩ : S26)⟩ : S75)); (case aB => exact bA); (case aF => exact (fun _ _ => trivial)); (case aO => exact (by (with_reducible repeat (first | apply Kd.R_alloc | apply Kd.R_drewN | apply Kd.R_drew)); exact Kd.R_mono (Kd.R_far (p:=⟨gb474,5,none⟩) (Kd.R_far (p:=⟨gb474,4,none⟩) (Kd.R_far (p:=⟨gb474,3,none⟩) (Kd.R_far (p:=⟨gb474,2,none⟩) (Kd.R_far (p:=⟨gb474,1,none⟩) (Kd.R_far (p:=⟨gb474,0,none⟩) (Kd.R_types HO_4.out BK474.out (by decide)) (fun _ hk => hk.2) (.int .i64 t467)) (fun _ hk => hk.2) (.int .i64 t468)) (fun _ hk => hk.2) (.int .i64 t469)) (fun _ hk => hk.2) (.int .i64 t470)) (fun _ hk => hk.2) (.int .i64 t471)) (fun _ hk => hk.2) (.int .i64 t472)) (fun _ hk => trivial))); (case aS => exact (below_size bA)); (case aL => have := LMc16.out; omega); intro v476 w22 ho hb hg hat; rw [← Ny475.out] at ho; have n0_ := Aside0.mk (Kd.R_over' (by (with_reducible repeat (first | apply Kd.R_alloc | apply Kd.R_drewN | apply Kd.R_drew)); exact (Kd.R_mono (Kd.R_far (p:=⟨gb474,5,none⟩) (Kd.R_far (p:=⟨gb474,4,none⟩) (Kd.R_far (p:=⟨gb474,3,none⟩) (Kd.R_far (p:=⟨gb474,2,none⟩) (Kd.R_far (p:=⟨gb474,1,none⟩) (Kd.R_far (p:=⟨gb474,0,none⟩) (Kd.R_types HO_16.out BK474.out (by decide)) (fun _ hk => hk.2) (.int .i64 t467)) (fun _ hk => hk.2) (.int .i64 t468)) (fun _ hk => hk.2) (.int .i64 t469)) (fun _ hk => hk.2) (.int .i64 t470)) (fun _ hk => hk.2) (.int .i64 t471)) (fun _ hk => hk.2) (.int .i64 t472)) (fun _ h_ => h_.1))) (Kd.R_typed (by (with_reducible repeat (first | apply Kd.R_alloc | apply Kd.R_drewN | apply Kd.R_drew)); exact (Kd.R_mono (Kd.R_far (p:=⟨gb474,5,none⟩) (Kd.R_far (p:=⟨gb474,4,none⟩) (Kd.R_far (p:=⟨gb474,3,none⟩) (Kd.R_far (p:=⟨gb474,2,none⟩) (Kd.R_far (p:=⟨gb474,1,none⟩) (Kd.R_far (p:=⟨gb474,0,none⟩) (Kd.R_types HO_4.out BK474.out (by decide)) (fun _ hk => hk.2) (.int .i64 t467)) (fun _ hk => hk.2) (.int .i64 t468)) (fun _ hk => hk.2) (.int .i64 t469)) (fun _ hk => hk.2) (.int .i64 t470)) (fun _ hk => hk.2) (.int .i64 t471)) (fun _ hk => hk.2) (.int .i64 t472)) (fun _ h_ => h_.1)))) (by decide) hg); have n1_ := Aside0.mk (blk_grown (g:=gb474) (o:=.cells #[.int .i64 t467,.int .i64 t468,.int .i64 t469,.int .i64 t470,.int .i64 t471,.int .i64 t472] 26 (0,0)) (by (with_reducible repeat (first | refine blk_drewN ?_ _ | refine blk_drew ?_ | refine blk_alloc ?_ _)); apply blkp6; (with_reducible repeat (first | refine blk_drewN ?_ _ | refine blk_drew ?_ | refine blk_alloc ?_ _)); exact BK474.out) hg (Kd.R_ne HO_4.out BK474.out (by decide))); have n2_ := Aside0.mk (hb); have n3_ := Aside0.mk (ho); clear HO_16; clear BK474; clear HB; clear HO_4; have HO_16 := n0_; have BK474 := n1_; have HB := n2_; have HO477 := n3_; clear n0_ n1_ n2_ n3_; clear ho hb hg hat))
          go_roundg k1
          case measure => have := HK1.out; omega
          case rel => exact ⟨(y475),(wrap64 (x18_1 + 1)),(by first | rfl | (simp; done) | (simp [*]; done)),H',⟨by have := HK1.out; omega⟩,⟨rA HO477.out⟩,⟨rA HO_16.out⟩,⟨bA⟩⟩
         ·rw [if_neg c16] at H
          exact absurd H (by simp)
        ·replace c15 := Bool.eq_false_iff.mpr c15
         subst c15
         rw [if_neg (show ¬ (false = true) by decide)] at H
         simp only [Option.some.injEq,Prod.mk.injEq] at H
         obtain ⟨rfl,rfl⟩ := H
         have p461 : 0 ≤ (x18_1 : Int) := od
         have q461 : x18_1 < (t457.length : Int) := od
         obtain ⟨ad461,e461,hx461_0⟩ := Kd.at_string (Kd.R_reads' HO_16.out).2.2 x18_1 p461 q461
         cases e461
         replace p461 := eq_true p461
         replace q461 := eq_true q461
         go_wp2_with (first | ((with_reducible refine gate_callee (f:=53) rfl ?_); refine goesL_ (some 24) rfl rfl Tryz.func53 (by kernel_rfl) rfl #[.string (rdOf ByteArray.empty t457 x18_1),.string (⟨#[58]⟩ : ByteArray)] rfl mA ?_; (with_reducible refine (strings_Cut.calls (rdOf ByteArray.empty t457 x18_1) (⟨#[58]⟩ : ByteArray) t462 t463 true _ ?side1 A10.out).mono ?_); (case side1 => exact HV.out.below bA); rintro e w23 ⟨rfl,hb⟩; refine ⟨_,rfl,?_⟩; have n0_ := Aside0.mk (Kd.R_below (rA HO_4.out) hb); have n1_ := Aside0.mk (Kd.R_below (rA HO_16.out) hb); have n2_ := Aside0.mk (below_step bA hb); clear HO_4; clear HO_16; clear HB; have HO_4 := n0_; have HO_16 := n1_; have HB := n2_; clear n0_ n1_ n2_; (try clear hb); (try clear hb2); (try clear hk); (try clear hi)) | ((with_reducible refine gate_callee (f:=54) rfl ?_); refine goesL_ (some 30) rfl rfl Tryz.func54 (by kernel_rfl) rfl #[.string t462] rfl mA ?_; (with_reducible refine (impl_number.calls t462 t465 true _ ?side1 A11.out).mono ?_); (case side1 => exact HV.out.below bA); rintro e w24 ⟨rfl,hb⟩; refine ⟨_,rfl,?_⟩; have n0_ := Aside0.mk (Kd.R_below (rA HO_4.out) hb); have n1_ := Aside0.mk (Kd.R_below (rA HO_16.out) hb); have n2_ := Aside0.mk (below_step bA hb); clear HO_4; clear HO_16; clear HB; have HO_4 := n0_; have HO_16 := n1_; have HB := n2_; clear n0_ n1_ n2_; (try clear hb); (try clear hb2); (try clear hk); (try clear hi)) | ((with_reducible refine gate_callee (f:=55) rfl ?_); refine goesL_ (some 35) rfl rfl Tryz.func55 (by kernel_rfl) rfl #[.string t463] rfl mA ?_; (with_reducible refine (impl_readAgg.calls k1 t463 t467 t468 t469 t470 t471 t472 false _ ?side1 A12.out).mono ?_); (case side1 => exact HV.out.below bA); rintro e w25 ⟨rfl,hb⟩; refine ⟨_,rfl,?_⟩; have n0_ := Aside0.mk (Kd.R_below (rA HO_4.out) hb); have n1_ := Aside0.mk (Kd.R_below (rA HO_16.out) hb); have n2_ := Aside0.mk (below_step bA hb); clear HO_4; clear HO_16; clear HB; have HO_4 := n0_; have HO_16 := n1_; have HB := n2_; clear n0_ n1_ n2_; (try clear hb); (try clear hb2); (try clear hk); (try clear hi)) | ((with_reducible refine gate_dst (N:=12) rfl ?_); refine box_event ?hg (N:=12) ?hd (cs := #[.int .i64 0,.int .i64 0,.int .i64 0,.int .i64 0,.int .i64 0,.int .i64 0]) (t:=26) ?hr ?_; (case hd => rfl); (case hg => rfl); (case hr => first | (go_simp; done) | (go_simp; rfl)); intro gb474 hg w26 hbox hb; have n0_ := Aside0.mk (Kd.R_below (rA HO_4.out) hb); have n1_ := Aside0.mk (Kd.R_below (rA HO_16.out) hb); have n2_ := Aside0.mk (below_step bA hb); have n3_ := Aside0.mk (hbox); have n4_ := Aside0.mk ((gw hg : w.heap.size ≤ gb474)); have n5_ := Aside0.mk ((gw hg : w.heap.size ≤ gb474)); clear HO_4; clear HO_16; clear HB; have HO_4 := n0_; have HO_16 := n1_; have HB := n2_; have BK474 := n3_; have GW474 := n4_; have GE474 := n5_; clear n0_ n1_ n2_ n3_ n4_ n5_; clear hb hbox hg; have hcz27_0 : w26.cell? ⟨gb474,0,none⟩ = some (.int .i64 0) := (blk_cell BK474.out 0).trans rfl; have hcz27_1 : w26.cell? ⟨gb474,1,none⟩ = some (.int .i64 0) := (blk_cell BK474.out 1).trans rfl; have hcz27_2 : w26.cell? ⟨gb474,2,none⟩ = some (.int .i64 0) := (blk_cell BK474.out 2).trans rfl; have hcz27_3 : w26.cell? ⟨gb474,3,none⟩ = some (.int .i64 0) := (blk_cell BK474.out 3).trans rfl; have hcz27_4 : w26.cell? ⟨gb474,4,none⟩ = some (.int .i64 0) := (blk_cell BK474.out 4).trans rfl; have hcz27_5 : w26.cell? ⟨gb474,5,none⟩ = some (.int .i64 0) := (blk_cell BK474.out 5).trans rfl; have hfz27_0 := blk_frozen BK474.out 0; have hfz27_1 := blk_frozen BK474.out 1; have hfz27_2 := blk_frozen BK474.out 2; have hfz27_3 := blk_frozen BK474.out 3; have hfz27_4 := blk_frozen BK474.out 4; have hfz27_5 := blk_frozen BK474.out 5))
         go_ret2
         exact ⟨_,by first | rfl | (simp only [i64_w,i32_w] <;> rfl) | (simp [errW_none,errW_some] <;> rfl) | (simp [*,errW_none,errW_some] <;> rfl),by first | exact Kd.R_nil _ _ _ _ _ | exact Kd.N_nil _ _ _ _ _ | exact Kd.V_nil _ _ _ _ _ | exact Kd.Q_nil _ _ _ _ _ | exact Kd.S_nil _ _ _ _ _,bA⟩
       ·replace c14 := Bool.eq_false_iff.mpr c14
        subst c14
        rw [if_neg (show ¬ (false = true) by decide)] at H
        simp only [Option.some.injEq,Prod.mk.injEq] at H
        obtain ⟨rfl,rfl⟩ := H
        have p461 : 0 ≤ (x18_1 : Int) := od
        have q461 : x18_1 < (t457.length : Int) := od
        obtain ⟨ad461,e461,hx461_0⟩ := Kd.at_string (Kd.R_reads' HO_16.out).2.2 x18_1 p461 q461
        cases e461
        replace p461 := eq_true p461
        replace q461 := eq_true q461
        go_wp2_with (first | ((with_reducible refine gate_callee (f:=53) rfl ?_); refine goesL_ (some 24) rfl rfl Tryz.func53 (by kernel_rfl) rfl #[.string (rdOf ByteArray.empty t457 x18_1),.string (⟨#[58]⟩ : ByteArray)] rfl mA ?_; (with_reducible refine (strings_Cut.calls (rdOf ByteArray.empty t457 x18_1) (⟨#[58]⟩ : ByteArray) t462 t463 true _ ?side1 A10.out).mono ?_); (case side1 => exact HV.out.below bA); rintro e w28 ⟨rfl,hb⟩; refine ⟨_,rfl,?_⟩; have n0_ := Aside0.mk (Kd.R_below (rA HO_4.out) hb); have n1_ := Aside0.mk (Kd.R_below (rA HO_16.out) hb); have n2_ := Aside0.mk (below_step bA hb); clear HO_4; clear HO_16; clear HB; have HO_4 := n0_; have HO_16 := n1_; have HB := n2_; clear n0_ n1_ n2_; (try clear hb); (try clear hb2); (try clear hk); (try clear hi)) | ((with_reducible refine gate_callee (f:=54) rfl ?_); refine goesL_ (some 30) rfl rfl Tryz.func54 (by kernel_rfl) rfl #[.string t462] rfl mA ?_; (with_reducible refine (impl_number.calls t462 t465 false _ ?side1 A11.out).mono ?_); (case side1 => exact HV.out.below bA); rintro e w29 ⟨rfl,hb⟩; refine ⟨_,rfl,?_⟩; have n0_ := Aside0.mk (Kd.R_below (rA HO_4.out) hb); have n1_ := Aside0.mk (Kd.R_below (rA HO_16.out) hb); have n2_ := Aside0.mk (below_step bA hb); clear HO_4; clear HO_16; clear HB; have HO_4 := n0_; have HO_16 := n1_; have HB := n2_; clear n0_ n1_ n2_; (try clear hb); (try clear hb2); (try clear hk); (try clear hi)) | ((with_reducible refine gate_callee (f:=55) rfl ?_); refine goesL_ (some 35) rfl rfl Tryz.func55 (by kernel_rfl) rfl #[.string t463] rfl mA ?_; (with_reducible refine (impl_readAgg.calls k1 t463 t467 t468 t469 t470 t471 t472 t473 _ ?side1 A12.out).mono ?_); (case side1 => exact HV.out.below bA); rintro e w30 ⟨rfl,hb⟩; refine ⟨_,rfl,?_⟩; have n0_ := Aside0.mk (Kd.R_below (rA HO_4.out) hb); have n1_ := Aside0.mk (Kd.R_below (rA HO_16.out) hb); have n2_ := Aside0.mk (below_step bA hb); clear HO_4; clear HO_16; clear HB; have HO_4 := n0_; have HO_16 := n1_; have HB := n2_; clear n0_ n1_ n2_; (try clear hb); (try clear hb2); (try clear hk); (try clear hi)) | ((with_reducible refine gate_dst (N:=12) rfl ?_); refine box_event ?hg (N:=12) ?hd (cs := #[.int .i64 0,.int .i64 0,.int .i64 0,.int .i64 0,.int .i64 0,.int .i64 0]) (t:=26) ?hr ?_; (case hd => rfl); (case hg => rfl); (case hr => first | (go_simp; done) | (go_simp; rfl)); intro gb474 hg w31 hbox hb; have n0_ := Aside0.mk (Kd.R_below (rA HO_4.out) hb); have n1_ := Aside0.mk (Kd.R_below (rA HO_16.out) hb); have n2_ := Aside0.mk (below_step bA hb); have n3_ := Aside0.mk (hbox); have n4_ := Aside0.mk ((gw hg : w.heap.size ≤ gb474)); have n5_ := Aside0.mk ((gw hg : w.heap.size ≤ gb474)); clear HO_4; clear HO_16; clear HB; have HO_4 := n0_; have HO_16 := n1_; have HB := n2_; have BK474 := n3_; have GW474 := n4_; have GE474 := n5_; clear n0_ n1_ n2_ n3_ n4_ n5_; clear hb hbox hg; have hcz32_0 : w31.cell? ⟨gb474,0,none⟩ = some (.int .i64 0) := (blk_cell BK474.out 0).trans rfl; have hcz32_1 : w31.cell? ⟨gb474,1,none⟩ = some (.int .i64 0) := (blk_cell BK474.out 1).trans rfl; have hcz32_2 : w31.cell? ⟨gb474,2,none⟩ = some (.int .i64 0) := (blk_cell BK474.out 2).trans rfl; have hcz32_3 : w31.cell? ⟨gb474,3,none⟩ = some (.int .i64 0) := (blk_cell BK474.out 3).trans rfl; have hcz32_4 : w31.cell? ⟨gb474,4,none⟩ = some (.int .i64 0) := (blk_cell BK474.out 4).trans rfl; have hcz32_5 : w31.cell? ⟨gb474,5,none⟩ = some (.int .i64 0) := (blk_cell BK474.out 5).trans rfl; have hfz32_0 := blk_frozen BK474.out 0; have hfz32_1 := blk_frozen BK474.out 1; have hfz32_2 := blk_frozen BK474.out 2; have hfz32_3 := blk_frozen BK474.out 3; have hfz32_4 := blk_frozen BK474.out 4; have hfz32_5 := blk_frozen BK474.out 5))
        go_ret2
        exact ⟨_,by first | rfl | (simp only [i64_w,i32_w] <;> rfl) | (simp [errW_none,errW_some] <;> rfl) | (simp [*,errW_none,errW_some] <;> rfl),by first | exact Kd.R_nil _ _ _ _ _ | exact Kd.N_nil _ _ _ _ _ | exact Kd.V_nil _ _ _ _ _ | exact Kd.Q_nil _ _ _ _ _ | exact Kd.S_nil _ _ _ _ _,bA⟩
      ·replace c13 := Bool.eq_false_iff.mpr c13
       subst c13
       rw [if_neg (show ¬ (false = true) by decide)] at H
       simp only [Option.some.injEq,Prod.mk.injEq] at H
       obtain ⟨rfl,rfl⟩ := H
       have p461 : 0 ≤ (x18_1 : Int) := od
       have q461 : x18_1 < (t457.length : Int) := od
       obtain ⟨ad461,e461,hx461_0⟩ := Kd.at_string (Kd.R_reads' HO_16.out).2.2 x18_1 p461 q461
       cases e461
       replace p461 := eq_true p461
       replace q461 := eq_true q461
       go_wp2_with (first | ((with_reducible refine gate_callee (f:=53) rfl ?_); refine goesL_ (some 24) rfl rfl Tryz.func53 (by kernel_rfl) rfl #[.string (rdOf ByteArray.empty t457 x18_1),.string (⟨#[58]⟩ : ByteArray)] rfl mA ?_; (with_reducible refine (strings_Cut.calls (rdOf ByteArray.empty t457 x18_1) (⟨#[58]⟩ : ByteArray) t462 t463 false _ ?side1 A10.out).mono ?_); (case side1 => exact HV.out.below bA); rintro e w33 ⟨rfl,hb⟩; refine ⟨_,rfl,?_⟩; have n0_ := Aside0.mk (Kd.R_below (rA HO_4.out) hb); have n1_ := Aside0.mk (Kd.R_below (rA HO_16.out) hb); have n2_ := Aside0.mk (below_step bA hb); clear HO_4; clear HO_16; clear HB; have HO_4 := n0_; have HO_16 := n1_; have HB := n2_; clear n0_ n1_ n2_; (try clear hb); (try clear hb2); (try clear hk); (try clear hi)) | ((with_reducible refine gate_callee (f:=54) rfl ?_); refine goesL_ (some 30) rfl rfl Tryz.func54 (by kernel_rfl) rfl #[.string t462] rfl mA ?_; (with_reducible refine (impl_number.calls t462 t465 t466 _ ?side1 A11.out).mono ?_); (case side1 => exact HV.out.below bA); rintro e w34 ⟨rfl,hb⟩; refine ⟨_,rfl,?_⟩; have n0_ := Aside0.mk (Kd.R_below (rA HO_4.out) hb); have n1_ := Aside0.mk (Kd.R_below (rA HO_16.out) hb); have n2_ := Aside0.mk (below_step bA hb); clear HO_4; clear HO_16; clear HB; have HO_4 := n0_; have HO_16 := n1_; have HB := n2_; clear n0_ n1_ n2_; (try clear hb); (try clear hb2); (try clear hk); (try clear hi)) | ((with_reducible refine gate_callee (f:=55) rfl ?_); refine goesL_ (some 35) rfl rfl Tryz.func55 (by kernel_rfl) rfl #[.string t463] rfl mA ?_; (with_reducible refine (impl_readAgg.calls k1 t463 t467 t468 t469 t470 t471 t472 t473 _ ?side1 A12.out).mono ?_); (case side1 => exact HV.out.below bA); rintro e w35 ⟨rfl,hb⟩; refine ⟨_,rfl,?_⟩; have n0_ := Aside0.mk (Kd.R_below (rA HO_4.out) hb); have n1_ := Aside0.mk (Kd.R_below (rA HO_16.out) hb); have n2_ := Aside0.mk (below_step bA hb); clear HO_4; clear HO_16; clear HB; have HO_4 := n0_; have HO_16 := n1_; have HB := n2_; clear n0_ n1_ n2_; (try clear hb); (try clear hb2); (try clear hk); (try clear hi)) | ((with_reducible refine gate_dst (N:=12) rfl ?_); refine box_event ?hg (N:=12) ?hd (cs := #[.int .i64 0,.int .i64 0,.int .i64 0,.int .i64 0,.int .i64 0,.int .i64 0]) (t:=26) ?hr ?_; (case hd => rfl); (case hg => rfl); (case hr => first | (go_simp; done) | (go_simp; rfl)); intro gb474 hg w36 hbox hb; have n0_ := Aside0.mk (Kd.R_below (rA HO_4.out) hb); have n1_ := Aside0.mk (Kd.R_below (rA HO_16.out) hb); have n2_ := Aside0.mk (below_step bA hb); have n3_ := Aside0.mk (hbox); have n4_ := Aside0.mk ((gw hg : w.heap.size ≤ gb474)); have n5_ := Aside0.mk ((gw hg : w.heap.size ≤ gb474)); clear HO_4; clear HO_16; clear HB; have HO_4 := n0_; have HO_16 := n1_; have HB := n2_; have BK474 := n3_; have GW474 := n4_; have GE474 := n5_; clear n0_ n1_ n2_ n3_ n4_ n5_; clear hb hbox hg; have hcz37_0 : w36.cell? ⟨gb474,0,none⟩ = some (.int .i64 0) := (blk_cell BK474.out 0).trans rfl; have hcz37_1 : w36.cell? ⟨gb474,1,none⟩ = some (.int .i64 0) := (blk_cell BK474.out 1).trans rfl; have hcz37_2 : w36.cell? ⟨gb474,2,none⟩ = some (.int .i64 0) := (blk_cell BK474.out 2).trans rfl; have hcz37_3 : w36.cell? ⟨gb474,3,none⟩ = some (.int .i64 0) := (blk_cell BK474.out 3).trans rfl; have hcz37_4 : w36.cell? ⟨gb474,4,none⟩ = some (.int .i64 0) := (blk_cell BK474.out 4).trans rfl; have hcz37_5 : w36.cell? ⟨gb474,5,none⟩ = some (.int .i64 0) := (blk_cell BK474.out 5).trans rfl; have hfz37_0 := blk_frozen BK474.out 0; have hfz37_1 := blk_frozen BK474.out 1; have hfz37_2 := blk_frozen BK474.out 2; have hfz37_3 := blk_frozen BK474.out 3; have hfz37_4 := blk_frozen BK474.out 4; have hfz37_5 := blk_frozen BK474.out 5))
       go_ret2
       exact ⟨_,by first | rfl | (simp only [i64_w,i32_w] <;> rfl) | (simp [errW_none,errW_some] <;> rfl) | (simp [*,errW_none,errW_some] <;> rfl),by first | exact Kd.R_nil _ _ _ _ _ | exact Kd.N_nil _ _ _ _ _ | exact Kd.V_nil _ _ _ _ _ | exact Kd.Q_nil _ _ _ _ _ | exact Kd.S_nil _ _ _ _ _,bA⟩
     ·rw [if_neg c9] at H
      exact absurd H (by simp)
    ·rw [if_neg c8] at H
     exact absurd H (by simp)
   ·rw [if_neg c7] at H
    have c7b0 : decide (x18_1 < (t457.length : Int)) = false := decide_eq_false c7
    clear c7
    replace H := Option.bind_eq_some_iff.mp H
    obtain ⟨t460,A380,H⟩ := H
    try dsimp only at H
    have A38 := Aside0.mk A380
    clear A380
    simp only [Option.some.injEq,Prod.mk.injEq] at H
    obtain ⟨rfl,rfl⟩ := H
    obtain ⟨Ao39,co39,eo39⟩ := Kd.R_slice HO_4.out
    subst eo39
    go_wp2_with (first | ((with_reducible refine gate_callee (f:=56) rfl ?_); refine goesL_ (some 57) rfl rfl Tryz.func56 (by kernel_rfl) rfl #[.slice Ao39 x4_1.length co39] rfl mA ?_; (with_reducible refine (impl_BucketsOK.calls k1 _ _ x4_1 t460 _ ?side1 ?side2 A38.out).mono ?_); (case side1 => repeat (first | exact (Kd.R_reads' HO_4.out).2.2 | (with_reducible refine Kd.C_alloc ?_ _) | (with_reducible refine Kd.C_drewN ?_ _) | (with_reducible refine Kd.C_drew ?_))); (case side2 => exact (Kd.R_reads' HO_4.out).2.1); rintro e w40 ⟨rfl,hb⟩; refine ⟨_,rfl,?_⟩; have n0_ := Aside0.mk (Kd.R_below (rA HO_4.out) hb); have n1_ := Aside0.mk (Kd.R_below (rA HO_16.out) hb); have n2_ := Aside0.mk (below_step bA hb); clear HO_4; clear HO_16; clear HB; have HO_4 := n0_; have HO_16 := n1_; have HB := n2_; clear n0_ n1_ n2_; (try clear hb); (try clear hb2); (try clear hk); (try clear hi)))
    go_ret2
    exact ⟨_,by first | rfl | (simp only [i64_w,i32_w] <;> rfl) | (simp [errW_none,errW_some] <;> rfl) | (simp [*,errW_none,errW_some] <;> rfl),rA HO_4.out,bA⟩

/-! ### impl_fold: function 31 -/
def impl_fold.l0 : Nat → Int → Int → Int → List (S75) → Int → Int → Int → Int → Int → Int → Int → Int → Option (Int × Int × Int × Int × Int × Int × Int)
 | 0,_,_,_,_,_,_,_,_,_,_,_,_ => none
 | k + 1,x1,x2,x9,x13,x14,x15,x480000,x480001,x480002,x480003,x480004,x480005 => if x15 < x14 then (if 0 ≤ x15 then (if x15 < (x13.length : Int) then ((impl_within.f ((rd_T75 x13 x15).f0) x1 (wrap64 (x2 - 1))).bind fun t482 => (if t482 = true then ((impl_Agg_merged.f x480000 x480001 x480002 x480003 x480004 x480005 ((rd_T75 x13 x15).f1.f0) ((rd_T75 x13 x15).f1.f1) ((rd_T75 x13 x15).f1.f2) ((rd_T75 x13 x15).f1.f3) ((rd_T75 x13 x15).f1.f4) ((rd_T75 x13 x15).f1.f5)).bind fun bt483 => (impl_fold.l0 k x1 x2 (wrap64 (x9 + ((rd_T75 x13 x15).f1.f0))) x13 x14 (wrap64 (x15 + 1)) bt483.1 bt483.2.1 bt483.2.2.1 bt483.2.2.2.1 bt483.2.2.2.2.1 bt483.2.2.2.2.2)) else (impl_fold.l0 k x1 x2 (wrap64 (x9 + ((rd_T75 x13 x15).f1.f0))) x13 x14 (wrap64 (x15 + 1)) x480000 x480001 x480002 x480003 x480004 x480005))) else (none)) else (none)) else (if x9 > 100000 then (some (0,0,0,0,0,0,6)) else (some (x480000,x480001,x480002,x480003,x480004,x480005,0)))
def impl_fold.f (k : Nat) (l0 : List (S75)) (a1 : Int) (a2 : Int) : Option (Int × Int × Int × Int × Int × Int × Int) := impl_fold.l0 k a1 a2 0 l0 (l0.length : Int) 0 0 0 0 0 0 0
theorem impl_fold.mono_l : ∀ k,(∀ y0 y1 y2 y3 y4 y5 y6 y7 y8 y9 y10 y11,LeO (impl_fold.l0 k y0 y1 y2 y3 y4 y5 y6 y7 y8 y9 y10 y11) (impl_fold.l0 (k + 1) y0 y1 y2 y3 y4 y5 y6 y7 y8 y9 y10 y11))
 | 0 => fun _ _ _ _ _ _ _ _ _ _ _ _ r h => by simp [impl_fold.l0] at h
 | k + 1 => by
  have ih0 := impl_fold.mono_l k
  ·intro y0 y1 y2 y3 y4 y5 y6 y7 y8 y9 y10 y11
   unfold impl_fold.l0
   repeat' first
   | (with_reducible exact ih0 _ _ _ _ _ _ _ _ _ _ _ _)
   | (with_reducible exact LeO.refl _)
   | (with_reducible exact LeO.none _)
   | (with_reducible refine LeO.ite ?_ ?_)
   | (with_reducible refine LeO.bind ?_ (fun _ => ?_))
   | exact ih0 _ _ _ _ _ _ _ _ _ _ _ _
   | exact LeO.none _
   | refine LeO.ite ?_ ?_
   | refine LeO.bind ?_ (fun _ => ?_)
theorem impl_fold.mono : ∀ a0 a1 a2 k,LeO (impl_fold.f k a0 a1 a2) (impl_fold.f (k + 1) a0 a1 a2) := by
 intro a0 a1 a2 k
 have ih0 := impl_fold.mono_l k
 unfold impl_fold.f
 repeat' first
   | (with_reducible exact ih0 _ _ _ _ _ _ _ _ _ _ _ _)
   | (with_reducible exact LeO.refl _)
   | (with_reducible exact LeO.none _)
   | (with_reducible refine LeO.ite ?_ ?_)
   | (with_reducible refine LeO.bind ?_ (fun _ => ?_))
   | exact ih0 _ _ _ _ _ _ _ _ _ _ _ _
   | exact LeO.none _
   | refine LeO.ite ?_ ?_
   | refine LeO.bind ?_ (fun _ => ?_)
set_option maxHeartbeats 8000000 in
set_option maxRecDepth 100000 in
theorem impl_fold.calls (k : Nat) (A0 : Option Addr) (c0 : Nat) (l0 : List (S75)) (a1 : Int) (a2 : Int) (r1 : Int) (r2 : Int) (r3 : Int) (r4 : Int) (r5 : Int) (r6 : Int) (r7 : Int) (w : World) (hr0 : Kd.C k75 w A0 l0.length l0) (hc0 : l0.length ≤ c0) (h : impl_fold.f k l0 a1 a2 = some (r1,r2,r3,r4,r5,r6,r7)) :
  Calls Tryz.prog 31 #[.slice A0 l0.length c0,.int .i64 a1,.int .i64 a2] w fun e w' => e = .returned (.tuple #[.agg #[.int .i64 r1,.int .i64 r2,.int .i64 r3,.int .i64 r4,.int .i64 r5,.int .i64 r6],.int .i64 r7]) ∧ Below w.heap.size w w' := by
 have hu26 := Tryz.underlying26
 have hu75 := Tryz.underlying75
 have HR0 := Aside0.mk hr0
 have HC0 := Aside0.mk hc0
 clear hr0 hc0
 have HB := Aside0.mk (Below.refl w.heap.size w)
 have H : (impl_fold.l0 k a1 a2 0 l0 (l0.length : Int) 0 0 0 0 0 0 0) = some (r1,r2,r3,r4,r5,r6,r7) := h
 clear h
 have H' := Aside0.mk H
 clear H
 go_enter Tryz.func31,Tryz.ntmps31
 go_wp2_with (first | ((with_reducible refine gate_dst (N:=6) rfl ?_); refine box_event ?hg (N:=6) ?hd (cs := #[.int .i64 0,.int .i64 0,.int .i64 0,.int .i64 0,.int .i64 0,.int .i64 0]) (t:=26) ?hr ?_; (case hd => rfl); (case hg => rfl); (case hr => first | (go_simp; done) | (go_simp; rfl)); intro gb478 hg w4 hbox hb; have n0_ := Aside0.mk (below_step bA hb); have n1_ := Aside0.mk (hbox); have n2_ := Aside0.mk ((gw hg : w.heap.size ≤ gb478)); have n3_ := Aside0.mk ((gw hg : w.heap.size ≤ gb478)); clear HB; have HB := n0_; have BK478 := n1_; have GW478 := n2_; have GE478 := n3_; clear n0_ n1_ n2_ n3_; clear hb hbox hg) | ((with_reducible refine gate_dst (N:=8) rfl ?_); refine box_event ?hg (N:=8) ?hd (cs := #[.int .i64 0,.int .i64 0,.int .i64 0,.int .i64 0,.int .i64 0,.int .i64 0]) (t:=26) ?hr ?_; (case hd => rfl); (case hg => rfl); (case hr => first | (go_simp; done) | (go_simp; rfl)); intro gb479 hg w5 hbox hb; have n0_ := Aside0.mk (blk_below (g:=gb478) (o:=.cells #[.int .i64 0,.int .i64 0,.int .i64 0,.int .i64 0,.int .i64 0,.int .i64 0] 26 (0,0)) (kA BK478.out) hb); have n1_ := Aside0.mk (below_step bA hb); have n2_ := Aside0.mk (hbox); have n3_ := Aside0.mk ((gw hg : w.heap.size ≤ gb479)); have n4_ := Aside0.mk ((gw hg : w.heap.size ≤ gb479)); have n5_ := Aside0.mk ((by rw [hg]; exact Nat.ne_of_lt (blk_lt (g:=gb478) (o:=.cells #[.int .i64 0,.int .i64 0,.int .i64 0,.int .i64 0,.int .i64 0,.int .i64 0] 26 (0,0)) (kA BK478.out)) : gb478 ≠ gb479)); have n6_ := Aside0.mk ((by rw [hg]; exact Nat.ne_of_gt (blk_lt (g:=gb478) (o:=.cells #[.int .i64 0,.int .i64 0,.int .i64 0,.int .i64 0,.int .i64 0,.int .i64 0] 26 (0,0)) (kA BK478.out)) : gb479 ≠ gb478)); clear BK478; clear HB; have BK478 := n0_; have HB := n1_; have BK479 := n2_; have GW479 := n3_; have GE479 := n4_; have NB478_479 := n5_; have NB479_478 := n6_; clear n0_ n1_ n2_ n3_ n4_ n5_ n6_; clear hb hbox hg; have hnb6 := NB479_478.out; have hnc6 := NB478_479.out; have hcz7_0 : w5.cell? ⟨gb479,0,none⟩ = some (.int .i64 0) := (blk_cell BK479.out 0).trans rfl; have hcz7_1 : w5.cell? ⟨gb479,1,none⟩ = some (.int .i64 0) := (blk_cell BK479.out 1).trans rfl; have hcz7_2 : w5.cell? ⟨gb479,2,none⟩ = some (.int .i64 0) := (blk_cell BK479.out 2).trans rfl; have hcz7_3 : w5.cell? ⟨gb479,3,none⟩ = some (.int .i64 0) := (blk_cell BK479.out 3).trans rfl; have hcz7_4 : w5.cell? ⟨gb479,4,none⟩ = some (.int .i64 0) := (blk_cell BK479.out 4).trans rfl; have hcz7_5 : w5.cell? ⟨gb479,5,none⟩ = some (.int .i64 0) := (blk_cell BK479.out 5).trans rfl; have hfz7_0 := blk_frozen BK479.out 0; have hfz7_1 := blk_frozen BK479.out 1; have hfz7_2 := blk_frozen BK479.out 2; have hfz7_3 := blk_frozen BK479.out 3; have hfz7_4 := blk_frozen BK479.out 4; have hfz7_5 := blk_frozen BK479.out 5))
 go_loopg [9,15] k (fun kq v9 v15 w' => ∃ (x9_1 : Int) (x15_1 : Int) (x480000_1 : Int) (x480001_1 : Int) (x480002_1 : Int) (x480003_1 : Int) (x480004_1 : Int) (x480005_1 : Int),v9 = .int .i64 x9_1 ∧ v15 = .int .i64 x15_1 ∧ Aside0 (impl_fold.l0 kq a1 a2 x9_1 l0 (l0.length : Int) x15_1 x480000_1 x480001_1 x480002_1 x480003_1 x480004_1 x480005_1 = some (r1,r2,r3,r4,r5,r6,r7)) ∧ Aside0 (kq ≤ k) ∧ Aside0 (w'.heap[gb478]? = some (.cells #[.int .i64 0,.int .i64 0,.int .i64 0,.int .i64 0,.int .i64 0,.int .i64 0] 26 (0,0))) ∧ Aside0 (w'.heap[gb479]? = some (.cells #[.int .i64 x480000_1,.int .i64 x480001_1,.int .i64 x480002_1,.int .i64 x480003_1,.int .i64 x480004_1,.int .i64 x480005_1] 26 (0,0))) ∧ Aside0 (Below w.heap.size w w'))
 case atStart => exact ⟨(0),(0),(0),(0),(0),(0),(0),(0),(by first | rfl | (simp; done) | (simp [*]; done)),(by first | rfl | (simp; done) | (simp [*]; done)),H',⟨Nat.le_refl _⟩,⟨kF BK478.out⟩,⟨by (with_reducible repeat (first | refine blk_drewN ?_ _ | refine blk_drew ?_ | refine blk_alloc ?_ _)); apply blkp6; (with_reducible repeat (first | refine blk_drewN ?_ _ | refine blk_drew ?_ | refine blk_alloc ?_ _)); exact BK479.out⟩,⟨bA⟩⟩
 case round =>
  clear H'
  try clear p2
  try clear c3
  try clear c6
  try clear hcz7_0
  try clear hcz7_1
  try clear hcz7_2
  try clear hcz7_3
  try clear hcz7_4
  try clear hcz7_5
  try clear hfz7_0
  try clear hfz7_1
  try clear hfz7_2
  try clear hfz7_3
  try clear hfz7_4
  try clear hfz7_5
  obtain ⟨x9_1,x15_1,x480000_1,x480001_1,x480002_1,x480003_1,x480004_1,x480005_1,rfl,rfl,HA,HK1,BK478,BK479,HB⟩ := hrel
  cases gk with
  | zero => exact absurd HA.out (by simp [impl_fold.l0])
  | succ k1 =>
   have H := HA.out
   clear HA
   simp only [impl_fold.l0] at H
   by_cases c8 : x15_1 < (l0.length : Int)
   ·rw [if_pos c8] at H
    have c8b0 : decide (x15_1 < (l0.length : Int)) = true := decide_eq_true c8
    clear c8
    by_cases c9 : 0 ≤ x15_1
    ·rw [if_pos c9] at H
     have c9b0 : decide (0 ≤ x15_1) = true := decide_eq_true c9
     clear c9
     by_cases c10 : x15_1 < (l0.length : Int)
     ·rw [if_pos c10] at H
      have c10b0 : decide (x15_1 < (l0.length : Int)) = true := decide_eq_true c10
      clear c10
      replace H := Option.bind_eq_some_iff.mp H
      obtain ⟨t482,A110,H⟩ := H
      try dsimp only at H
      have A11 := Aside0.mk A110
      clear A110
      by_cases c12 : t482 = true
      ·subst c12
       rw [if_pos rfl] at H
       replace H := Option.bind_eq_some_iff.mp H
       obtain ⟨⟨t483,t484,t485,t486,t487,t488⟩,A130,H⟩ := H
       try dsimp only at H
       have A13 := Aside0.mk A130
       clear A130
       have H' := Aside0.mk H
       clear H
       have p480 : 0 ≤ (x15_1 : Int) := od
       have q480 : x15_1 < (l0.length : Int) := od
       obtain ⟨ad480,e480,hx480_0,hx480_1,hx480_2,hx480_3,hx480_4,hx480_5,hx480_6⟩ := at_T75 HR0.out x15_1 p480 q480
       cases e480
       replace hx480_0 := cb HB.out hx480_0
       replace hx480_1 := cb HB.out hx480_1
       replace hx480_2 := cb HB.out hx480_2
       replace hx480_3 := cb HB.out hx480_3
       replace hx480_4 := cb HB.out hx480_4
       replace hx480_5 := cb HB.out hx480_5
       replace hx480_6 := cb HB.out hx480_6
       replace p480 := eq_true p480
       replace q480 := eq_true q480
       go_wp2_with (first | ((with_reducible refine gate_dst (N:=11) rfl ?_); refine box_event ?hg (N:=11) ?hd (cs := #[.int .i64 0,.int .i64 0,.int .i64 0,.int .i64 0,.int .i64 0,.int .i64 0,.int .i64 0]) (t:=75) ?hr ?_; (case hd => rfl); (case hg => rfl); (case hr => first | (go_simp; done) | (go_simp; rfl)); intro gb481 hg w14 hbox hb; have n0_ := Aside0.mk (blk_below (g:=gb478) (o:=.cells #[.int .i64 0,.int .i64 0,.int .i64 0,.int .i64 0,.int .i64 0,.int .i64 0] 26 (0,0)) (kA BK478.out) hb); have n1_ := Aside0.mk (blk_below (g:=gb479) (o:=.cells #[.int .i64 x480000_1,.int .i64 x480001_1,.int .i64 x480002_1,.int .i64 x480003_1,.int .i64 x480004_1,.int .i64 x480005_1] 26 (0,0)) (kA BK479.out) hb); have n2_ := Aside0.mk (below_step bA hb); have n3_ := Aside0.mk (hbox); have n4_ := Aside0.mk ((gw hg : w.heap.size ≤ gb481)); have n5_ := Aside0.mk ((gw hg : w.heap.size ≤ gb481)); have n6_ := Aside0.mk ((by rw [hg]; exact Nat.ne_of_lt (blk_lt (g:=gb478) (o:=.cells #[.int .i64 0,.int .i64 0,.int .i64 0,.int .i64 0,.int .i64 0,.int .i64 0] 26 (0,0)) (kA BK478.out)) : gb478 ≠ gb481)); have n7_ := Aside0.mk ((by rw [hg]; exact Nat.ne_of_gt (blk_lt (g:=gb478) (o:=.cells #[.int .i64 0,.int .i64 0,.int .i64 0,.int .i64 0,.int .i64 0,.int .i64 0] 26 (0,0)) (kA BK478.out)) : gb481 ≠ gb478)); have n8_ := Aside0.mk ((by rw [hg]; exact Nat.ne_of_lt (blk_lt (g:=gb479) (o:=.cells #[.int .i64 x480000_1,.int .i64 x480001_1,.int .i64 x480002_1,.int .i64 x480003_1,.int .i64 x480004_1,.int .i64 x480005_1] 26 (0,0)) (kA BK479.out)) : gb479 ≠ gb481)); have n9_ := Aside0.mk ((by rw [hg]; exact Nat.ne_of_gt (blk_lt (g:=gb479) (o:=.cells #[.int .i64 x480000_1,.int .i64 x480001_1,.int .i64 x480002_1,.int .i64 x480003_1,.int .i64 x480004_1,.int .i64 x480005_1] 26 (0,0)) (kA BK479.out)) : gb481 ≠ gb479)); clear BK478; clear BK479; clear HB; have BK478 := n0_; have BK479 := n1_; have HB := n2_; have BK481 := n3_; have GW481 := n4_; have GE481 := n5_; have NB478_481 := n6_; have NB481_478 := n7_; have NB479_481 := n8_; have NB481_479 := n9_; clear n0_ n1_ n2_ n3_ n4_ n5_ n6_ n7_ n8_ n9_; clear hb hbox hg; have hnb15 := NB481_478.out; have hnc15 := NB478_481.out; have hnb16 := NB481_479.out; have hnc16 := NB479_481.out; have hcz17_0 : w14.cell? ⟨gb481,0,none⟩ = some (.int .i64 0) := (blk_cell BK481.out 0).trans rfl; have hcz17_1 : w14.cell? ⟨gb481,1,none⟩ = some (.int .i64 0) := (blk_cell BK481.out 1).trans rfl; have hcz17_2 : w14.cell? ⟨gb481,2,none⟩ = some (.int .i64 0) := (blk_cell BK481.out 2).trans rfl; have hcz17_3 : w14.cell? ⟨gb481,3,none⟩ = some (.int .i64 0) := (blk_cell BK481.out 3).trans rfl; have hcz17_4 : w14.cell? ⟨gb481,4,none⟩ = some (.int .i64 0) := (blk_cell BK481.out 4).trans rfl; have hcz17_5 : w14.cell? ⟨gb481,5,none⟩ = some (.int .i64 0) := (blk_cell BK481.out 5).trans rfl; have hcz17_6 : w14.cell? ⟨gb481,6,none⟩ = some (.int .i64 0) := (blk_cell BK481.out 6).trans rfl; have hfz17_0 := blk_frozen BK481.out 0; have hfz17_1 := blk_frozen BK481.out 1; have hfz17_2 := blk_frozen BK481.out 2; have hfz17_3 := blk_frozen BK481.out 3; have hfz17_4 := blk_frozen BK481.out 4; have hfz17_5 := blk_frozen BK481.out 5; have hfz17_6 := blk_frozen BK481.out 6) | ((with_reducible refine gate_callee (f:=52) rfl ?_); refine goesL_ (some 29) rfl rfl Tryz.func52 (by kernel_rfl) rfl #[.int .i64 ((rd_T75 l0 x15_1).f0),.int .i64 a1,.int .i64 (wrap64 (a2 - 1))] rfl mA ?_; (with_reducible refine (impl_within.calls ((rd_T75 l0 x15_1).f0) a1 (wrap64 (a2 - 1)) true _ A11.out).mono ?_); rintro e w' ⟨rfl,⟨nd,rfl⟩⟩; refine ⟨_,rfl,?_⟩; have hnb18 := NB479_478.out; have hnc18 := NB478_479.out; have hcz19_0 : w14.cell? ⟨gb479,0,none⟩ = some (.int .i64 x480000_1) := (blk_cell BK479.out 0).trans rfl; have hcz19_1 : w14.cell? ⟨gb479,1,none⟩ = some (.int .i64 x480001_1) := (blk_cell BK479.out 1).trans rfl; have hcz19_2 : w14.cell? ⟨gb479,2,none⟩ = some (.int .i64 x480002_1) := (blk_cell BK479.out 2).trans rfl; have hcz19_3 : w14.cell? ⟨gb479,3,none⟩ = some (.int .i64 x480003_1) := (blk_cell BK479.out 3).trans rfl; have hcz19_4 : w14.cell? ⟨gb479,4,none⟩ = some (.int .i64 x480004_1) := (blk_cell BK479.out 4).trans rfl; have hcz19_5 : w14.cell? ⟨gb479,5,none⟩ = some (.int .i64 x480005_1) := (blk_cell BK479.out 5).trans rfl; have hfz19_0 := blk_frozen BK479.out 0; have hfz19_1 := blk_frozen BK479.out 1; have hfz19_2 := blk_frozen BK479.out 2; have hfz19_3 := blk_frozen BK479.out 3; have hfz19_4 := blk_frozen BK479.out 4; have hfz19_5 := blk_frozen BK479.out 5) | ((with_reducible refine gate_callee (f:=51) rfl ?_); refine goesL_ (some 33) rfl rfl Tryz.func51 (by kernel_rfl) rfl #[.agg #[.int .i64 x480000_1,.int .i64 x480001_1,.int .i64 x480002_1,.int .i64 x480003_1,.int .i64 x480004_1,.int .i64 x480005_1],.agg #[.int .i64 ((rd_T75 l0 x15_1).f1.f0),.int .i64 ((rd_T75 l0 x15_1).f1.f1),.int .i64 ((rd_T75 l0 x15_1).f1.f2),.int .i64 ((rd_T75 l0 x15_1).f1.f3),.int .i64 ((rd_T75 l0 x15_1).f1.f4),.int .i64 ((rd_T75 l0 x15_1).f1.f5)]] rfl mA ?_; (with_reducible refine (impl_Agg_merged.calls x480000_1 x480001_1 x480002_1 x480003_1 x480004_1 x480005_1 ((rd_T75 l0 x15_1).f1.f0) ((rd_T75 l0 x15_1).f1.f1) ((rd_T75 l0 x15_1).f1.f2) ((rd_T75 l0 x15_1).f1.f3) ((rd_T75 l0 x15_1).f1.f4) ((rd_T75 l0 x15_1).f1.f5) t483 t484 t485 t486 t487 t488 _ A13.out).mono ?_); rintro e w20 ⟨rfl,hb⟩; refine ⟨_,rfl,?_⟩; have n0_ := Aside0.mk (blk_below (g:=gb478) (o:=.cells #[.int .i64 0,.int .i64 0,.int .i64 0,.int .i64 0,.int .i64 0,.int .i64 0] 26 (0,0)) (kF BK478.out) hb); have n1_ := Aside0.mk (blk_below (g:=gb479) (o:=.cells #[.int .i64 x480000_1,.int .i64 x480001_1,.int .i64 x480002_1,.int .i64 x480003_1,.int .i64 x480004_1,.int .i64 x480005_1] 26 (0,0)) (kF BK479.out) hb); have n2_ := Aside0.mk (blk_below (g:=gb481) (o:=.cells #[.int .i64 ((rd_T75 l0 x15_1).f0),.int .i64 ((rd_T75 l0 x15_1).f1.f0),.int .i64 ((rd_T75 l0 x15_1).f1.f1),.int .i64 ((rd_T75 l0 x15_1).f1.f2),.int .i64 ((rd_T75 l0 x15_1).f1.f3),.int .i64 ((rd_T75 l0 x15_1).f1.f4),.int .i64 ((rd_T75 l0 x15_1).f1.f5)] 75 (0,0)) (by (with_reducible repeat (first | refine blk_drewN ?_ _ | refine blk_drew ?_ | refine blk_alloc ?_ _)); apply blkp7; (with_reducible repeat (first | refine blk_drewN ?_ _ | refine blk_drew ?_ | refine blk_alloc ?_ _)); exact BK481.out) hb); have n3_ := Aside0.mk (below_step bA hb); clear BK478; clear BK479; clear BK481; clear HB; have BK478 := n0_; have BK479 := n1_; have BK481 := n2_; have HB := n3_; clear n0_ n1_ n2_ n3_; (try clear hb); (try clear hb2); (try clear hk); (try clear hi); have hcz21_0 : w20.cell? ⟨gb479,0,none⟩ = some (.int .i64 x480000_1) := (blk_cell BK479.out 0).trans rfl; have hcz21_1 : w20.cell? ⟨gb479,1,none⟩ = some (.int .i64 x480001_1) := (blk_cell BK479.out 1).trans rfl; have hcz21_2 : w20.cell? ⟨gb479,2,none⟩ = some (.int .i64 x480002_1) := (blk_cell BK479.out 2).trans rfl; have hcz21_3 : w20.cell? ⟨gb479,3,none⟩ = some (.int .i64 x480003_1) := (blk_cell BK479.out 3).trans rfl; have hcz21_4 : w20.cell? ⟨gb479,4,none⟩ = some (.int .i64 x480004_1) := (blk_cell BK479.out 4).trans rfl; have hcz21_5 : w20.cell? ⟨gb479,5,none⟩ = some (.int .i64 x480005_1) := (blk_cell BK479.out 5).trans rfl; have hfz21_0 := blk_frozen BK479.out 0; have hfz21_1 := blk_frozen BK479.out 1; have hfz21_2 := blk_frozen BK479.out 2; have hfz21_3 := blk_frozen BK479.out 3; have hfz21_4 := blk_frozen BK479.out 4; have hfz21_5 := blk_frozen BK479.out 5))
       go_roundg k1
       case measure => have := HK1.out; omega
       case rel => exact ⟨(wrap64 (x9_1 + ((rd_T75 l0 x15_1).f1.f0))),(wrap64 (x15_1 + 1)),(t483),(t484),(t485),(t486),(t487),(t488),(by first | rfl | (simp; done) | (simp [*]; done)),(by first | rfl | (simp; done) | (simp [*]; done)),H',⟨by have := HK1.out; omega⟩,⟨kF BK478.out⟩,⟨by (with_reducible repeat (first | refine blk_drewN ?_ _ | refine blk_drew ?_ | refine blk_alloc ?_ _)); apply blkp6; (with_reducible repeat (first | refine blk_drewN ?_ _ | refine blk_drew ?_ | refine blk_alloc ?_ _)); exact BK479.out⟩,⟨bA⟩⟩
      ·replace c12 := Bool.eq_false_iff.mpr c12
       subst c12
       rw [if_neg (show ¬ (false = true) by decide)] at H
       have H' := Aside0.mk H
       clear H
       have p480 : 0 ≤ (x15_1 : Int) := od
       have q480 : x15_1 < (l0.length : Int) := od
       obtain ⟨ad480,e480,hx480_0,hx480_1,hx480_2,hx480_3,hx480_4,hx480_5,hx480_6⟩ := at_T75 HR0.out x15_1 p480 q480
       cases e480
       replace hx480_0 := cb HB.out hx480_0
       replace hx480_1 := cb HB.out hx480_1
       replace hx480_2 := cb HB.out hx480_2
       replace hx480_3 := cb HB.out hx480_3
       replace hx480_4 := cb HB.out hx480_4
       replace hx480_5 := cb HB.out hx480_5
       replace hx480_6 := cb HB.out hx480_6
       replace p480 := eq_true p480
       replace q480 := eq_true q480
       go_wp2_with (first | ((with_reducible refine gate_dst (N:=11) rfl ?_); refine box_event ?hg (N:=11) ?hd (cs := #[.int .i64 0,.int .i64 0,.int .i64 0,.int .i64 0,.int .i64 0,.int .i64 0,.int .i64 0]) (t:=75) ?hr ?_; (case hd => rfl); (case hg => rfl); (case hr => first | (go_simp; done) | (go_simp; rfl)); intro gb481 hg w22 hbox hb; have n0_ := Aside0.mk (blk_below (g:=gb478) (o:=.cells #[.int .i64 0,.int .i64 0,.int .i64 0,.int .i64 0,.int .i64 0,.int .i64 0] 26 (0,0)) (kA BK478.out) hb); have n1_ := Aside0.mk (blk_below (g:=gb479) (o:=.cells #[.int .i64 x480000_1,.int .i64 x480001_1,.int .i64 x480002_1,.int .i64 x480003_1,.int .i64 x480004_1,.int .i64 x480005_1] 26 (0,0)) (kA BK479.out) hb); have n2_ := Aside0.mk (below_step bA hb); have n3_ := Aside0.mk (hbox); have n4_ := Aside0.mk ((gw hg : w.heap.size ≤ gb481)); have n5_ := Aside0.mk ((gw hg : w.heap.size ≤ gb481)); have n6_ := Aside0.mk ((by rw [hg]; exact Nat.ne_of_lt (blk_lt (g:=gb478) (o:=.cells #[.int .i64 0,.int .i64 0,.int .i64 0,.int .i64 0,.int .i64 0,.int .i64 0] 26 (0,0)) (kA BK478.out)) : gb478 ≠ gb481)); have n7_ := Aside0.mk ((by rw [hg]; exact Nat.ne_of_gt (blk_lt (g:=gb478) (o:=.cells #[.int .i64 0,.int .i64 0,.int .i64 0,.int .i64 0,.int .i64 0,.int .i64 0] 26 (0,0)) (kA BK478.out)) : gb481 ≠ gb478)); have n8_ := Aside0.mk ((by rw [hg]; exact Nat.ne_of_lt (blk_lt (g:=gb479) (o:=.cells #[.int .i64 x480000_1,.int .i64 x480001_1,.int .i64 x480002_1,.int .i64 x480003_1,.int .i64 x480004_1,.int .i64 x480005_1] 26 (0,0)) (kA BK479.out)) : gb479 ≠ gb481)); have n9_ := Aside0.mk ((by rw [hg]; exact Nat.ne_of_gt (blk_lt (g:=gb479) (o:=.cells #[.int .i64 x480000_1,.int .i64 x480001_1,.int .i64 x480002_1,.int .i64 x480003_1,.int .i64 x480004_1,.int .i64 x480005_1] 26 (0,0)) (kA BK479.out)) : gb481 ≠ gb479)); clear BK478; clear BK479; clear HB; have BK478 := n0_; have BK479 := n1_; have HB := n2_; have BK481 := n3_; have GW481 := n4_; have GE481 := n5_; have NB478_481 := n6_; have NB481_478 := n7_; have NB479_481 := n8_; have NB481_479 := n9_; clear n0_ n1_ n2_ n3_ n4_ n5_ n6_ n7_ n8_ n9_; clear hb hbox hg; have hnb23 := NB481_478.out; have hnc23 := NB478_481.out; have hnb24 := NB481_479.out; have hnc24 := NB479_481.out; have hcz25_0 : w22.cell? ⟨gb481,0,none⟩ = some (.int .i64 0) := (blk_cell BK481.out 0).trans rfl; have hcz25_1 : w22.cell? ⟨gb481,1,none⟩ = some (.int .i64 0) := (blk_cell BK481.out 1).trans rfl; have hcz25_2 : w22.cell? ⟨gb481,2,none⟩ = some (.int .i64 0) := (blk_cell BK481.out 2).trans rfl; have hcz25_3 : w22.cell? ⟨gb481,3,none⟩ = some (.int .i64 0) := (blk_cell BK481.out 3).trans rfl; have hcz25_4 : w22.cell? ⟨gb481,4,none⟩ = some (.int .i64 0) := (blk_cell BK481.out 4).trans rfl; have hcz25_5 : w22.cell? ⟨gb481,5,none⟩ = some (.int .i64 0) := (blk_cell BK481.out 5).trans rfl; have hcz25_6 : w22.cell? ⟨gb481,6,none⟩ = some (.int .i64 0) := (blk_cell BK481.out 6).trans rfl; have hfz25_0 := blk_frozen BK481.out 0; have hfz25_1 := blk_frozen BK481.out 1; have hfz25_2 := blk_frozen BK481.out 2; have hfz25_3 := blk_frozen BK481.out 3; have hfz25_4 := blk_frozen BK481.out 4; have hfz25_5 := blk_frozen BK481.out 5; have hfz25_6 := blk_frozen BK481.out 6) | ((with_reducible refine gate_callee (f:=52) rfl ?_); refine goesL_ (some 29) rfl rfl Tryz.func52 (by kernel_rfl) rfl #[.int .i64 ((rd_T75 l0 x15_1).f0),.int .i64 a1,.int .i64 (wrap64 (a2 - 1))] rfl mA ?_; (with_reducible refine (impl_within.calls ((rd_T75 l0 x15_1).f0) a1 (wrap64 (a2 - 1)) false _ A11.out).mono ?_); rintro e w' ⟨rfl,⟨nd,rfl⟩⟩; refine ⟨_,rfl,?_⟩))
       go_roundg k1
       case measure => have := HK1.out; omega
       case rel => exact ⟨(wrap64 (x9_1 + ((rd_T75 l0 x15_1).f1.f0))),(wrap64 (x15_1 + 1)),(x480000_1),(x480001_1),(x480002_1),(x480003_1),(x480004_1),(x480005_1),(by first | rfl | (simp; done) | (simp [*]; done)),(by first | rfl | (simp; done) | (simp [*]; done)),H',⟨by have := HK1.out; omega⟩,⟨kF BK478.out⟩,⟨kF BK479.out⟩,⟨bA⟩⟩
     ·rw [if_neg c10] at H
      exact absurd H (by simp)
    ·rw [if_neg c9] at H
     exact absurd H (by simp)
   ·rw [if_neg c8] at H
    have c8b0 : decide (x15_1 < (l0.length : Int)) = false := decide_eq_false c8
    clear c8
    by_cases c26 : x9_1 > 100000
    ·rw [if_pos c26] at H
     have c26b0 : decide (100000 < x9_1) = true := decide_eq_true c26
     clear c26
     simp only [Option.some.injEq,Prod.mk.injEq] at H
     obtain ⟨rfl,rfl,rfl,rfl,rfl,rfl,rfl⟩ := H
     have hnb27 := NB478_479.out
     have hnc27 := NB479_478.out
     have hcz28_0 : wr.cell? ⟨gb478,0,none⟩ = some (.int .i64 0) := (blk_cell BK478.out 0).trans rfl
     have hcz28_1 : wr.cell? ⟨gb478,1,none⟩ = some (.int .i64 0) := (blk_cell BK478.out 1).trans rfl
     have hcz28_2 : wr.cell? ⟨gb478,2,none⟩ = some (.int .i64 0) := (blk_cell BK478.out 2).trans rfl
     have hcz28_3 : wr.cell? ⟨gb478,3,none⟩ = some (.int .i64 0) := (blk_cell BK478.out 3).trans rfl
     have hcz28_4 : wr.cell? ⟨gb478,4,none⟩ = some (.int .i64 0) := (blk_cell BK478.out 4).trans rfl
     have hcz28_5 : wr.cell? ⟨gb478,5,none⟩ = some (.int .i64 0) := (blk_cell BK478.out 5).trans rfl
     have hfz28_0 := blk_frozen BK478.out 0
     have hfz28_1 := blk_frozen BK478.out 1
     have hfz28_2 := blk_frozen BK478.out 2
     have hfz28_3 := blk_frozen BK478.out 3
     have hfz28_4 := blk_frozen BK478.out 4
     have hfz28_5 := blk_frozen BK478.out 5
     go_wp2
     refine bodyPost_ret (results_ct rfl _ _ gb478 26 #[.int .i64 0,.int .i64 0,.int .i64 0,.int .i64 0,.int .i64 0,.int .i64 0] (0,0) _ rfl (by (with_reducible repeat (first | refine blk_drewN ?_ _ | refine blk_drew ?_ | refine blk_alloc ?_ _)); apply blkp6; (with_reducible repeat (first | refine blk_drewN ?_ _ | refine blk_drew ?_ | refine blk_alloc ?_ _)); exact BK478.out) Tryz.underlying26 rfl (by kernel_rfl)) rfl ?_
     exact ⟨by first | rfl | (simp only [i64_w,i32_w] <;> rfl) | (simp [errW_none,errW_some] <;> rfl) | (simp [*,errW_none,errW_some] <;> rfl),bA⟩
    ·rw [if_neg c26] at H
     have c26b0 : decide (100000 < x9_1) = false := decide_eq_false c26
     clear c26
     simp only [Option.some.injEq,Prod.mk.injEq] at H
     obtain ⟨rfl,rfl,rfl,rfl,rfl,rfl,rfl⟩ := H
     have hnb29 := NB479_478.out
     have hnc29 := NB478_479.out
     have hcz30_0 : wr.cell? ⟨gb479,0,none⟩ = some (.int .i64 x480000_1) := (blk_cell BK479.out 0).trans rfl
     have hcz30_1 : wr.cell? ⟨gb479,1,none⟩ = some (.int .i64 x480001_1) := (blk_cell BK479.out 1).trans rfl
     have hcz30_2 : wr.cell? ⟨gb479,2,none⟩ = some (.int .i64 x480002_1) := (blk_cell BK479.out 2).trans rfl
     have hcz30_3 : wr.cell? ⟨gb479,3,none⟩ = some (.int .i64 x480003_1) := (blk_cell BK479.out 3).trans rfl
     have hcz30_4 : wr.cell? ⟨gb479,4,none⟩ = some (.int .i64 x480004_1) := (blk_cell BK479.out 4).trans rfl
     have hcz30_5 : wr.cell? ⟨gb479,5,none⟩ = some (.int .i64 x480005_1) := (blk_cell BK479.out 5).trans rfl
     have hfz30_0 := blk_frozen BK479.out 0
     have hfz30_1 := blk_frozen BK479.out 1
     have hfz30_2 := blk_frozen BK479.out 2
     have hfz30_3 := blk_frozen BK479.out 3
     have hfz30_4 := blk_frozen BK479.out 4
     have hfz30_5 := blk_frozen BK479.out 5
     have hcz31_0 : wr.cell? ⟨gb478,0,none⟩ = some (.int .i64 0) := (blk_cell BK478.out 0).trans rfl
     have hcz31_1 : wr.cell? ⟨gb478,1,none⟩ = some (.int .i64 0) := (blk_cell BK478.out 1).trans rfl
     have hcz31_2 : wr.cell? ⟨gb478,2,none⟩ = some (.int .i64 0) := (blk_cell BK478.out 2).trans rfl
     have hcz31_3 : wr.cell? ⟨gb478,3,none⟩ = some (.int .i64 0) := (blk_cell BK478.out 3).trans rfl
     have hcz31_4 : wr.cell? ⟨gb478,4,none⟩ = some (.int .i64 0) := (blk_cell BK478.out 4).trans rfl
     have hcz31_5 : wr.cell? ⟨gb478,5,none⟩ = some (.int .i64 0) := (blk_cell BK478.out 5).trans rfl
     have hfz31_0 := blk_frozen BK478.out 0
     have hfz31_1 := blk_frozen BK478.out 1
     have hfz31_2 := blk_frozen BK478.out 2
     have hfz31_3 := blk_frozen BK478.out 3
     have hfz31_4 := blk_frozen BK478.out 4
     have hfz31_5 := blk_frozen BK478.out 5
     go_wp2
     refine bodyPost_ret (results_ct rfl _ _ gb478 26 #[.int .i64 x480000_1,.int .i64 x480001_1,.int .i64 x480002_1,.int .i64 x480003_1,.int .i64 x480004_1,.int .i64 x480005_1] (0,0) _ rfl (by (with_reducible repeat (first | refine blk_drewN ?_ _ | refine blk_drew ?_ | refine blk_alloc ?_ _)); apply blkp6; (with_reducible repeat (first | refine blk_drewN ?_ _ | refine blk_drew ?_ | refine blk_alloc ?_ _)); exact BK478.out) Tryz.underlying26 rfl (by kernel_rfl)) rfl ?_
     exact ⟨by first | rfl | (simp only [i64_w,i32_w] <;> rfl) | (simp [errW_none,errW_some] <;> rfl) | (simp [*,errW_none,errW_some] <;> rfl),bA⟩

/-! ### impl_windowOf: function 16 -/
def impl_windowOf.f (k : Nat) (a0_0 : Int) (a0_1 : Int) (a0_2 : Int) (a0_3 : ByteArray) (a1 : ByteArray) (a2 : Int) (a3 : Int) : Option (Int × Int × Int × Int × Int × Int × Int) := if a0_0 = 0 then ((impl_readSamples.f k a1).bind fun bt491 => (if bt491.2 = true then ((impl_samplesIn.f k bt491.1 a2 a3).bind fun t495 => ((impl_aggOf.f k t495).bind fun bt498 => (some (bt498.1,bt498.2.1,bt498.2.2.1,bt498.2.2.2.1,bt498.2.2.2.2.1,bt498.2.2.2.2.2,0)))) else (some (0,0,0,0,0,0,17)))) else ((impl_readBuckets.f k a1).bind fun bt504 => ((impl_fold.f k bt504.1 a2 a3).bind fun bt508 => (if bt504.2 = true then (if bt508.2.2.2.2.2.2 = 0 then (some (bt508.1,bt508.2.1,bt508.2.2.1,bt508.2.2.2.1,bt508.2.2.2.2.1,bt508.2.2.2.2.2.1,0)) else (some (0,0,0,0,0,0,17))) else (some (0,0,0,0,0,0,17)))))
theorem impl_windowOf.mono : ∀ a0 a1 a2 a3 a4 a5 a6 k,LeO (impl_windowOf.f k a0 a1 a2 a3 a4 a5 a6) (impl_windowOf.f (k + 1) a0 a1 a2 a3 a4 a5 a6) := by
 intro a0 a1 a2 a3 a4 a5 a6 k
 unfold impl_windowOf.f
 repeat' first
   | (with_reducible exact impl_aggOf.mono _ _)
   | (with_reducible exact impl_fold.mono _ _ _ _)
   | (with_reducible exact impl_readBuckets.mono _ _)
   | (with_reducible exact impl_readSamples.mono _ _)
   | (with_reducible exact impl_samplesIn.mono _ _ _ _)
   | (with_reducible exact LeO.refl _)
   | (with_reducible exact LeO.none _)
   | (with_reducible refine LeO.ite ?_ ?_)
   | (with_reducible refine LeO.bind ?_ (fun _ => ?_))
   | exact impl_aggOf.mono _ _
   | exact impl_fold.mono _ _ _ _
   | exact impl_readBuckets.mono _ _
   | exact impl_readSamples.mono _ _
   | exact impl_samplesIn.mono _ _ _ _
   | exact LeO.none _
   | refine LeO.ite ?_ ?_
   | refine LeO.bind ?_ (fun _ => ?_)
set_option maxHeartbeats 8000000 in
set_option maxRecDepth 100000 in
theorem impl_windowOf.calls (k : Nat) (a0_0 : Int) (a0_1 : Int) (a0_2 : Int) (a0_3 : ByteArray) (a1 : ByteArray) (a2 : Int) (a3 : Int) (r1 : Int) (r2 : Int) (r3 : Int) (r4 : Int) (r5 : Int) (r6 : Int) (r7 : Int) (w : World) (hV : Vars w) (h : impl_windowOf.f k a0_0 a0_1 a0_2 a0_3 a1 a2 a3 = some (r1,r2,r3,r4,r5,r6,r7)) :
  Calls Tryz.prog 16 #[.agg #[.int .i64 a0_0,.int .i64 a0_1,.int .i64 a0_2,.string a0_3],.string a1,.int .i64 a2,.int .i64 a3] w fun e w' => e = .returned (.tuple #[.agg #[.int .i64 r1,.int .i64 r2,.int .i64 r3,.int .i64 r4,.int .i64 r5,.int .i64 r6],.int .i64 r7]) ∧ Below w.heap.size w w' := by
 have hu29 := Tryz.underlying29
 have hu26 := Tryz.underlying26
 have HV := Aside0.mk hV
 clear hV
 have HB := Aside0.mk (Below.refl w.heap.size w)
 have H : (if a0_0 = 0 then ((impl_readSamples.f k a1).bind fun bt491 => (if bt491.2 = true then ((impl_samplesIn.f k bt491.1 a2 a3).bind fun t495 => ((impl_aggOf.f k t495).bind fun bt498 => (some (bt498.1,bt498.2.1,bt498.2.2.1,bt498.2.2.2.1,bt498.2.2.2.2.1,bt498.2.2.2.2.2,0)))) else (some (0,0,0,0,0,0,17)))) else ((impl_readBuckets.f k a1).bind fun bt504 => ((impl_fold.f k bt504.1 a2 a3).bind fun bt508 => (if bt504.2 = true then (if bt508.2.2.2.2.2.2 = 0 then (some (bt508.1,bt508.2.1,bt508.2.2.1,bt508.2.2.2.1,bt508.2.2.2.2.1,bt508.2.2.2.2.2.1,0)) else (some (0,0,0,0,0,0,17))) else (some (0,0,0,0,0,0,17)))))) = some (r1,r2,r3,r4,r5,r6,r7) := h
 clear h
 by_cases c5 : a0_0 = 0
 ·rw [if_pos c5] at H
  have c5b0 : (a0_0 == 0) = true := beq_iff_eq.mpr c5
  have c5b1 : (a0_0 != 0) = false := bne_eq_false_iff_eq.mpr c5
  clear c5
  replace H := Option.bind_eq_some_iff.mp H
  obtain ⟨⟨t491,t492⟩,A60,H⟩ := H
  try dsimp only at H
  have A6 := Aside0.mk A60
  clear A60
  by_cases c7 : t492 = true
  ·subst c7
   rw [if_pos rfl] at H
   replace H := Option.bind_eq_some_iff.mp H
   obtain ⟨t495,A80,H⟩ := H
   try dsimp only at H
   have A8 := Aside0.mk A80
   clear A80
   replace H := Option.bind_eq_some_iff.mp H
   obtain ⟨⟨t498,t499,t500,t501,t502,t503⟩,A90,H⟩ := H
   try dsimp only at H
   have A9 := Aside0.mk A90
   clear A90
   simp only [Option.some.injEq,Prod.mk.injEq] at H
   obtain ⟨rfl,rfl,rfl,rfl,rfl,rfl,rfl⟩ := H
   go_enter Tryz.func16,Tryz.ntmps16
   go_wp2_with (first | ((with_reducible refine gate_dst (N:=4) rfl ?_); refine box_event ?hg (N:=4) ?hd (cs := #[.int .i64 a0_0,.int .i64 a0_1,.int .i64 a0_2,.string a0_3]) (t:=29) ?hr ?_; (case hd => rfl); (case hg => rfl); (case hr => first | (go_simp; done) | (go_simp; rfl)); intro gb489 hg w10 hbox hb; have n0_ := Aside0.mk (below_step bA hb); have n1_ := Aside0.mk (hbox); have n2_ := Aside0.mk ((gw hg : w.heap.size ≤ gb489)); have n3_ := Aside0.mk ((gw hg : w.heap.size ≤ gb489)); clear HB; have HB := n0_; have BK489 := n1_; have GW489 := n2_; have GE489 := n3_; clear n0_ n1_ n2_ n3_; clear hb hbox hg) | ((with_reducible refine gate_dst (N:=8) rfl ?_); refine box_event ?hg (N:=8) ?hd (cs := #[.int .i64 0,.int .i64 0,.int .i64 0,.int .i64 0,.int .i64 0,.int .i64 0]) (t:=26) ?hr ?_; (case hd => rfl); (case hg => rfl); (case hr => first | (go_simp; done) | (go_simp; rfl)); intro gb490 hg w11 hbox hb; have n0_ := Aside0.mk (blk_below (g:=gb489) (o:=.cells #[.int .i64 a0_0,.int .i64 a0_1,.int .i64 a0_2,.string a0_3] 29 (0,0)) (kA BK489.out) hb); have n1_ := Aside0.mk (below_step bA hb); have n2_ := Aside0.mk (hbox); have n3_ := Aside0.mk ((gw hg : w.heap.size ≤ gb490)); have n4_ := Aside0.mk ((gw hg : w.heap.size ≤ gb490)); have n5_ := Aside0.mk ((by rw [hg]; exact Nat.ne_of_lt (blk_lt (g:=gb489) (o:=.cells #[.int .i64 a0_0,.int .i64 a0_1,.int .i64 a0_2,.string a0_3] 29 (0,0)) (kA BK489.out)) : gb489 ≠ gb490)); have n6_ := Aside0.mk ((by rw [hg]; exact Nat.ne_of_gt (blk_lt (g:=gb489) (o:=.cells #[.int .i64 a0_0,.int .i64 a0_1,.int .i64 a0_2,.string a0_3] 29 (0,0)) (kA BK489.out)) : gb490 ≠ gb489)); clear BK489; clear HB; have BK489 := n0_; have HB := n1_; have BK490 := n2_; have GW490 := n3_; have GE490 := n4_; have NB489_490 := n5_; have NB490_489 := n6_; clear n0_ n1_ n2_ n3_ n4_ n5_ n6_; clear hb hbox hg; have hnb12 := NB489_490.out; have hnc12 := NB490_489.out; have hcz13_0 : w11.cell? ⟨gb489,0,none⟩ = some (.int .i64 a0_0) := (blk_cell BK489.out 0).trans rfl; have hcz13_1 : w11.cell? ⟨gb489,1,none⟩ = some (.int .i64 a0_1) := (blk_cell BK489.out 1).trans rfl; have hcz13_2 : w11.cell? ⟨gb489,2,none⟩ = some (.int .i64 a0_2) := (blk_cell BK489.out 2).trans rfl; have hcz13_3 : w11.cell? ⟨gb489,3,none⟩ = some (.string a0_3) := (blk_cell BK489.out 3).trans rfl; have hfz13_0 := blk_frozen BK489.out 0; have hfz13_1 := blk_frozen BK489.out 1; have hfz13_2 := blk_frozen BK489.out 2; have hfz13_3 := blk_frozen BK489.out 3) | ((with_reducible refine gate_callee (f:=27) rfl ?_); refine goesL_ (some 21) rfl rfl Tryz.func27 (by kernel_rfl) rfl #[.string a1] rfl mA ?_; (with_reducible refine (impl_readSamples.calls k a1 t491 true _ ?side1 A6.out).mono ?_); (case side1 => exact HV.out.below bA); rintro e w14 ⟨v493,rfl,ho0,hb⟩; refine ⟨_,rfl,?_⟩; have n0_ := Aside0.mk (Kd.R_lower ho0 (below_size bA)); have n1_ := Aside0.mk (blk_below (g:=gb489) (o:=.cells #[.int .i64 a0_0,.int .i64 a0_1,.int .i64 a0_2,.string a0_3] 29 (0,0)) (kA BK489.out) hb); have n2_ := Aside0.mk (blk_below (g:=gb490) (o:=.cells #[.int .i64 0,.int .i64 0,.int .i64 0,.int .i64 0,.int .i64 0,.int .i64 0] 26 (0,0)) (kA BK490.out) hb); have n3_ := Aside0.mk (below_step bA hb); clear BK489; clear BK490; clear HB; have HO494 := n0_; have BK489 := n1_; have BK490 := n2_; have HB := n3_; clear n0_ n1_ n2_ n3_; (try clear hb); (try clear hb2); (try clear hk); (try clear hi); (try clear ho0); obtain ⟨Ao15,co15,eo15⟩ := Kd.R_slice HO494.out; subst eo15) | ((with_reducible refine gate_callee (f:=29) rfl ?_); refine goesL_ (some 30) rfl rfl Tryz.func29 (by kernel_rfl) rfl #[.slice Ao15 t491.length co15,.int .i64 a2,.int .i64 a3] rfl mA ?_; (with_reducible refine (impl_samplesIn.calls k _ _ t491 a2 a3 t495 _ ?side1 ?side2 A8.out).mono ?_); (case side1 => repeat (first | exact (Kd.R_reads' HO494.out).2.2 | (with_reducible refine Kd.C_alloc ?_ _) | (with_reducible refine Kd.C_drewN ?_ _) | (with_reducible refine Kd.C_drew ?_))); (case side2 => exact (Kd.R_reads' HO494.out).2.1); rintro e w16 ⟨v496,rfl,ho0,hb⟩; refine ⟨_,rfl,?_⟩; have n0_ := Aside0.mk (Kd.R_elder' (rA HO494.out) (Kd.R_base ho0) hb); have n1_ := Aside0.mk (Kd.R_lower (Kd.R_new' ho0 (Kd.R_lt (rA HO494.out))) (below_size bA)); have n2_ := Aside0.mk (blk_below (g:=gb489) (o:=.cells #[.int .i64 a0_0,.int .i64 a0_1,.int .i64 a0_2,.string a0_3] 29 (0,0)) (kA BK489.out) hb); have n3_ := Aside0.mk (blk_below (g:=gb490) (o:=.cells #[.int .i64 0,.int .i64 0,.int .i64 0,.int .i64 0,.int .i64 0,.int .i64 0] 26 (0,0)) (kA BK490.out) hb); have n4_ := Aside0.mk (below_step bA hb); clear HO494; clear BK489; clear BK490; clear HB; have HO494 := n0_; have HO497 := n1_; have BK489 := n2_; have BK490 := n3_; have HB := n4_; clear n0_ n1_ n2_ n3_ n4_; (try clear hb); (try clear hb2); (try clear hk); (try clear hi); (try clear ho0); obtain ⟨Ao17,co17,eo17⟩ := Kd.R_slice HO497.out; subst eo17) | ((with_reducible refine gate_callee (f:=28) rfl ?_); refine goesL_ (some 31) rfl rfl Tryz.func28 (by kernel_rfl) rfl #[.slice Ao17 t495.length co17] rfl mA ?_; (with_reducible refine (impl_aggOf.calls k _ _ t495 t498 t499 t500 t501 t502 t503 _ ?side1 ?side2 A9.out).mono ?_); (case side1 => repeat (first | exact (Kd.R_reads' HO497.out).2.2 | (with_reducible refine Kd.C_alloc ?_ _) | (with_reducible refine Kd.C_drewN ?_ _) | (with_reducible refine Kd.C_drew ?_))); (case side2 => exact (Kd.R_reads' HO497.out).2.1); rintro e w18 ⟨rfl,hb⟩; refine ⟨_,rfl,?_⟩; have n0_ := Aside0.mk (Kd.R_below (rA HO494.out) hb); have n1_ := Aside0.mk (Kd.R_below (rA HO497.out) hb); have n2_ := Aside0.mk (blk_below (g:=gb489) (o:=.cells #[.int .i64 a0_0,.int .i64 a0_1,.int .i64 a0_2,.string a0_3] 29 (0,0)) (kA BK489.out) hb); have n3_ := Aside0.mk (blk_below (g:=gb490) (o:=.cells #[.int .i64 0,.int .i64 0,.int .i64 0,.int .i64 0,.int .i64 0,.int .i64 0] 26 (0,0)) (kA BK490.out) hb); have n4_ := Aside0.mk (below_step bA hb); clear HO494; clear HO497; clear BK489; clear BK490; clear HB; have HO494 := n0_; have HO497 := n1_; have BK489 := n2_; have BK490 := n3_; have HB := n4_; clear n0_ n1_ n2_ n3_ n4_; (try clear hb); (try clear hb2); (try clear hk); (try clear hi); have hcz19_0 : w18.cell? ⟨gb490,0,none⟩ = some (.int .i64 0) := (blk_cell BK490.out 0).trans rfl; have hcz19_1 : w18.cell? ⟨gb490,1,none⟩ = some (.int .i64 0) := (blk_cell BK490.out 1).trans rfl; have hcz19_2 : w18.cell? ⟨gb490,2,none⟩ = some (.int .i64 0) := (blk_cell BK490.out 2).trans rfl; have hcz19_3 : w18.cell? ⟨gb490,3,none⟩ = some (.int .i64 0) := (blk_cell BK490.out 3).trans rfl; have hcz19_4 : w18.cell? ⟨gb490,4,none⟩ = some (.int .i64 0) := (blk_cell BK490.out 4).trans rfl; have hcz19_5 : w18.cell? ⟨gb490,5,none⟩ = some (.int .i64 0) := (blk_cell BK490.out 5).trans rfl; have hfz19_0 := blk_frozen BK490.out 0; have hfz19_1 := blk_frozen BK490.out 1; have hfz19_2 := blk_frozen BK490.out 2; have hfz19_3 := blk_frozen BK490.out 3; have hfz19_4 := blk_frozen BK490.out 4; have hfz19_5 := blk_frozen BK490.out 5))
   refine bodyPost_ret (results_ct rfl _ _ gb490 26 #[.int .i64 t498,.int .i64 t499,.int .i64 t500,.int .i64 t501,.int .i64 t502,.int .i64 t503] (0,0) _ rfl (by (with_reducible repeat (first | refine blk_drewN ?_ _ | refine blk_drew ?_ | refine blk_alloc ?_ _)); apply blkp6; (with_reducible repeat (first | refine blk_drewN ?_ _ | refine blk_drew ?_ | refine blk_alloc ?_ _)); exact BK490.out) Tryz.underlying26 rfl (by kernel_rfl)) rfl ?_
   exact ⟨by first | rfl | (simp [errW_none,errW_some] <;> rfl) | (simp [*,errW_none,errW_some] <;> rfl),bA⟩
  ·replace c7 := Bool.eq_false_iff.mpr c7
   subst c7
   rw [if_neg (show ¬ (false = true) by decide)] at H
   simp only [Option.some.injEq,Prod.mk.injEq] at H
   obtain ⟨rfl,rfl,rfl,rfl,rfl,rfl,rfl⟩ := H
   go_enter Tryz.func16,Tryz.ntmps16
   go_wp2_with (first | ((with_reducible refine gate_dst (N:=4) rfl ?_); refine box_event ?hg (N:=4) ?hd (cs := #[.int .i64 a0_0,.int .i64 a0_1,.int .i64 a0_2,.string a0_3]) (t:=29) ?hr ?_; (case hd => rfl); (case hg => rfl); (case hr => first | (go_simp; done) | (go_simp; rfl)); intro gb489 hg w20 hbox hb; have n0_ := Aside0.mk (below_step bA hb); have n1_ := Aside0.mk (hbox); have n2_ := Aside0.mk ((gw hg : w.heap.size ≤ gb489)); have n3_ := Aside0.mk ((gw hg : w.heap.size ≤ gb489)); clear HB; have HB := n0_; have BK489 := n1_; have GW489 := n2_; have GE489 := n3_; clear n0_ n1_ n2_ n3_; clear hb hbox hg) | ((with_reducible refine gate_dst (N:=8) rfl ?_); refine box_event ?hg (N:=8) ?hd (cs := #[.int .i64 0,.int .i64 0,.int .i64 0,.int .i64 0,.int .i64 0,.int .i64 0]) (t:=26) ?hr ?_; (case hd => rfl); (case hg => rfl); (case hr => first | (go_simp; done) | (go_simp; rfl)); intro gb490 hg w21 hbox hb; have n0_ := Aside0.mk (blk_below (g:=gb489) (o:=.cells #[.int .i64 a0_0,.int .i64 a0_1,.int .i64 a0_2,.string a0_3] 29 (0,0)) (kA BK489.out) hb); have n1_ := Aside0.mk (below_step bA hb); have n2_ := Aside0.mk (hbox); have n3_ := Aside0.mk ((gw hg : w.heap.size ≤ gb490)); have n4_ := Aside0.mk ((gw hg : w.heap.size ≤ gb490)); have n5_ := Aside0.mk ((by rw [hg]; exact Nat.ne_of_lt (blk_lt (g:=gb489) (o:=.cells #[.int .i64 a0_0,.int .i64 a0_1,.int .i64 a0_2,.string a0_3] 29 (0,0)) (kA BK489.out)) : gb489 ≠ gb490)); have n6_ := Aside0.mk ((by rw [hg]; exact Nat.ne_of_gt (blk_lt (g:=gb489) (o:=.cells #[.int .i64 a0_0,.int .i64 a0_1,.int .i64 a0_2,.string a0_3] 29 (0,0)) (kA BK489.out)) : gb490 ≠ gb489)); clear BK489; clear HB; have BK489 := n0_; have HB := n1_; have BK490 := n2_; have GW490 := n3_; have GE490 := n4_; have NB489_490 := n5_; have NB490_489 := n6_; clear n0_ n1_ n2_ n3_ n4_ n5_ n6_; clear hb hbox hg; have hnb22 := NB489_490.out; have hnc22 := NB490_489.out; have hcz23_0 : w21.cell? ⟨gb489,0,none⟩ = some (.int .i64 a0_0) := (blk_cell BK489.out 0).trans rfl; have hcz23_1 : w21.cell? ⟨gb489,1,none⟩ = some (.int .i64 a0_1) := (blk_cell BK489.out 1).trans rfl; have hcz23_2 : w21.cell? ⟨gb489,2,none⟩ = some (.int .i64 a0_2) := (blk_cell BK489.out 2).trans rfl; have hcz23_3 : w21.cell? ⟨gb489,3,none⟩ = some (.string a0_3) := (blk_cell BK489.out 3).trans rfl; have hfz23_0 := blk_frozen BK489.out 0; have hfz23_1 := blk_frozen BK489.out 1; have hfz23_2 := blk_frozen BK489.out 2; have hfz23_3 := blk_frozen BK489.out 3) | ((with_reducible refine gate_callee (f:=27) rfl ?_); refine goesL_ (some 21) rfl rfl Tryz.func27 (by kernel_rfl) rfl #[.string a1] rfl mA ?_; (with_reducible refine (impl_readSamples.calls k a1 t491 false _ ?side1 A6.out).mono ?_); (case side1 => exact HV.out.below bA); rintro e w24 ⟨v493,rfl,ho0,hb⟩; refine ⟨_,rfl,?_⟩; have n0_ := Aside0.mk (Kd.R_lower ho0 (below_size bA)); have n1_ := Aside0.mk (blk_below (g:=gb489) (o:=.cells #[.int .i64 a0_0,.int .i64 a0_1,.int .i64 a0_2,.string a0_3] 29 (0,0)) (kA BK489.out) hb); have n2_ := Aside0.mk (blk_below (g:=gb490) (o:=.cells #[.int .i64 0,.int .i64 0,.int .i64 0,.int .i64 0,.int .i64 0,.int .i64 0] 26 (0,0)) (kA BK490.out) hb); have n3_ := Aside0.mk (below_step bA hb); clear BK489; clear BK490; clear HB; have HO494 := n0_; have BK489 := n1_; have BK490 := n2_; have HB := n3_; clear n0_ n1_ n2_ n3_; (try clear hb); (try clear hb2); (try clear hk); (try clear hi); (try clear ho0); have hcz25_0 : w24.cell? ⟨gb490,0,none⟩ = some (.int .i64 0) := (blk_cell BK490.out 0).trans rfl; have hcz25_1 : w24.cell? ⟨gb490,1,none⟩ = some (.int .i64 0) := (blk_cell BK490.out 1).trans rfl; have hcz25_2 : w24.cell? ⟨gb490,2,none⟩ = some (.int .i64 0) := (blk_cell BK490.out 2).trans rfl; have hcz25_3 : w24.cell? ⟨gb490,3,none⟩ = some (.int .i64 0) := (blk_cell BK490.out 3).trans rfl; have hcz25_4 : w24.cell? ⟨gb490,4,none⟩ = some (.int .i64 0) := (blk_cell BK490.out 4).trans rfl; have hcz25_5 : w24.cell? ⟨gb490,5,none⟩ = some (.int .i64 0) := (blk_cell BK490.out 5).trans rfl; have hfz25_0 := blk_frozen BK490.out 0; have hfz25_1 := blk_frozen BK490.out 1; have hfz25_2 := blk_frozen BK490.out 2; have hfz25_3 := blk_frozen BK490.out 3; have hfz25_4 := blk_frozen BK490.out 4; have hfz25_5 := blk_frozen BK490.out 5))
   refine bodyPost_ret (results_ct rfl _ _ gb490 26 #[.int .i64 0,.int .i64 0,.int .i64 0,.int .i64 0,.int .i64 0,.int .i64 0] (0,0) _ rfl (by (with_reducible repeat (first | refine blk_drewN ?_ _ | refine blk_drew ?_ | refine blk_alloc ?_ _)); apply blkp6; (with_reducible repeat (first | refine blk_drewN ?_ _ | refine blk_drew ?_ | refine blk_alloc ?_ _)); exact BK490.out) Tryz.underlying26 rfl (by kernel_rfl)) rfl ?_
   exact ⟨by first | rfl | (simp [errW_none,errW_some] <;> rfl) | (simp [*,errW_none,errW_some] <;> rfl),bA⟩
 ·rw [if_neg c5] at H
  have c5b0 : (a0_0 == 0) = false := beq_eq_false_iff_ne.mpr c5
  have c5b1 : (a0_0 != 0) = true := bne_iff_ne.mpr c5
  replace H := Option.bind_eq_some_iff.mp H
  obtain ⟨⟨t504,t505⟩,A260,H⟩ := H
  try dsimp only at H
  have A26 := Aside0.mk A260
  clear A260
  replace H := Option.bind_eq_some_iff.mp H
  obtain ⟨⟨t508,t509,t510,t511,t512,t513,t514⟩,A270,H⟩ := H
  try dsimp only at H
  have A27 := Aside0.mk A270
  clear A270
  by_cases c28 : t505 = true
  ·subst c28
   rw [if_pos rfl] at H
   by_cases c29 : t514 = 0
   ·rw [if_pos c29] at H
    have c29b0 : (t514 == 0) = true := beq_iff_eq.mpr c29
    have c29b1 : (t514 != 0) = false := bne_eq_false_iff_eq.mpr c29
    clear c29
    simp only [Option.some.injEq,Prod.mk.injEq] at H
    obtain ⟨rfl,rfl,rfl,rfl,rfl,rfl,rfl⟩ := H
    go_enter Tryz.func16,Tryz.ntmps16
    go_wp2_with (first | ((with_reducible refine gate_dst (N:=4) rfl ?_); refine box_event ?hg (N:=4) ?hd (cs := #[.int .i64 a0_0,.int .i64 a0_1,.int .i64 a0_2,.string a0_3]) (t:=29) ?hr ?_; (case hd => rfl); (case hg => rfl); (case hr => first | (go_simp; done) | (go_simp; rfl)); intro gb489 hg w30 hbox hb; have n0_ := Aside0.mk (below_step bA hb); have n1_ := Aside0.mk (hbox); have n2_ := Aside0.mk ((gw hg : w.heap.size ≤ gb489)); have n3_ := Aside0.mk ((gw hg : w.heap.size ≤ gb489)); clear HB; have HB := n0_; have BK489 := n1_; have GW489 := n2_; have GE489 := n3_; clear n0_ n1_ n2_ n3_; clear hb hbox hg) | ((with_reducible refine gate_dst (N:=8) rfl ?_); refine box_event ?hg (N:=8) ?hd (cs := #[.int .i64 0,.int .i64 0,.int .i64 0,.int .i64 0,.int .i64 0,.int .i64 0]) (t:=26) ?hr ?_; (case hd => rfl); (case hg => rfl); (case hr => first | (go_simp; done) | (go_simp; rfl)); intro gb490 hg w31 hbox hb; have n0_ := Aside0.mk (blk_below (g:=gb489) (o:=.cells #[.int .i64 a0_0,.int .i64 a0_1,.int .i64 a0_2,.string a0_3] 29 (0,0)) (kA BK489.out) hb); have n1_ := Aside0.mk (below_step bA hb); have n2_ := Aside0.mk (hbox); have n3_ := Aside0.mk ((gw hg : w.heap.size ≤ gb490)); have n4_ := Aside0.mk ((gw hg : w.heap.size ≤ gb490)); have n5_ := Aside0.mk ((by rw [hg]; exact Nat.ne_of_lt (blk_lt (g:=gb489) (o:=.cells #[.int .i64 a0_0,.int .i64 a0_1,.int .i64 a0_2,.string a0_3] 29 (0,0)) (kA BK489.out)) : gb489 ≠ gb490)); have n6_ := Aside0.mk ((by rw [hg]; exact Nat.ne_of_gt (blk_lt (g:=gb489) (o:=.cells #[.int .i64 a0_0,.int .i64 a0_1,.int .i64 a0_2,.string a0_3] 29 (0,0)) (kA BK489.out)) : gb490 ≠ gb489)); clear BK489; clear HB; have BK489 := n0_; have HB := n1_; have BK490 := n2_; have GW490 := n3_; have GE490 := n4_; have NB489_490 := n5_; have NB490_489 := n6_; clear n0_ n1_ n2_ n3_ n4_ n5_ n6_; clear hb hbox hg; have hnb32 := NB489_490.out; have hnc32 := NB490_489.out; have hcz33_0 : w31.cell? ⟨gb489,0,none⟩ = some (.int .i64 a0_0) := (blk_cell BK489.out 0).trans rfl; have hcz33_1 : w31.cell? ⟨gb489,1,none⟩ = some (.int .i64 a0_1) := (blk_cell BK489.out 1).trans rfl; have hcz33_2 : w31.cell? ⟨gb489,2,none⟩ = some (.int .i64 a0_2) := (blk_cell BK489.out 2).trans rfl; have hcz33_3 : w31.cell? ⟨gb489,3,none⟩ = some (.string a0_3) := (blk_cell BK489.out 3).trans rfl; have hfz33_0 := blk_frozen BK489.out 0; have hfz33_1 := blk_frozen BK489.out 1; have hfz33_2 := blk_frozen BK489.out 2; have hfz33_3 := blk_frozen BK489.out 3) | ((with_reducible refine gate_callee (f:=30) rfl ?_); refine goesL_ (some 34) rfl rfl Tryz.func30 (by kernel_rfl) rfl #[.string a1] rfl mA ?_; (with_reducible refine (impl_readBuckets.calls k a1 t504 true _ ?side1 A26.out).mono ?_); (case side1 => exact HV.out.below bA); rintro e w34 ⟨v506,rfl,ho0,hb⟩; refine ⟨_,rfl,?_⟩; have n0_ := Aside0.mk (Kd.R_lower ho0 (below_size bA)); have n1_ := Aside0.mk (blk_below (g:=gb489) (o:=.cells #[.int .i64 a0_0,.int .i64 a0_1,.int .i64 a0_2,.string a0_3] 29 (0,0)) (kA BK489.out) hb); have n2_ := Aside0.mk (blk_below (g:=gb490) (o:=.cells #[.int .i64 0,.int .i64 0,.int .i64 0,.int .i64 0,.int .i64 0,.int .i64 0] 26 (0,0)) (kA BK490.out) hb); have n3_ := Aside0.mk (below_step bA hb); clear BK489; clear BK490; clear HB; have HO507 := n0_; have BK489 := n1_; have BK490 := n2_; have HB := n3_; clear n0_ n1_ n2_ n3_; (try clear hb); (try clear hb2); (try clear hk); (try clear hi); (try clear ho0); obtain ⟨Ao35,co35,eo35⟩ := Kd.R_slice HO507.out; subst eo35) | ((with_reducible refine gate_callee (f:=31) rfl ?_); refine goesL_ (some 41) rfl rfl Tryz.func31 (by kernel_rfl) rfl #[.slice Ao35 t504.length co35,.int .i64 a2,.int .i64 a3] rfl mA ?_; (with_reducible refine (impl_fold.calls k _ _ t504 a2 a3 t508 t509 t510 t511 t512 t513 t514 _ ?side1 ?side2 A27.out).mono ?_); (case side1 => repeat (first | exact (Kd.R_reads' HO507.out).2.2 | (with_reducible refine Kd.C_alloc ?_ _) | (with_reducible refine Kd.C_drewN ?_ _) | (with_reducible refine Kd.C_drew ?_))); (case side2 => exact (Kd.R_reads' HO507.out).2.1); rintro e w36 ⟨rfl,hb⟩; refine ⟨_,rfl,?_⟩; have n0_ := Aside0.mk (Kd.R_below (rA HO507.out) hb); have n1_ := Aside0.mk (blk_below (g:=gb489) (o:=.cells #[.int .i64 a0_0,.int .i64 a0_1,.int .i64 a0_2,.string a0_3] 29 (0,0)) (kA BK489.out) hb); have n2_ := Aside0.mk (blk_below (g:=gb490) (o:=.cells #[.int .i64 0,.int .i64 0,.int .i64 0,.int .i64 0,.int .i64 0,.int .i64 0] 26 (0,0)) (kA BK490.out) hb); have n3_ := Aside0.mk (below_step bA hb); clear HO507; clear BK489; clear BK490; clear HB; have HO507 := n0_; have BK489 := n1_; have BK490 := n2_; have HB := n3_; clear n0_ n1_ n2_ n3_; (try clear hb); (try clear hb2); (try clear hk); (try clear hi)) | ((with_reducible refine gate_dst (N:=14) rfl ?_); refine box_event ?hg (N:=14) ?hd (cs := #[.int .i64 0,.int .i64 0,.int .i64 0,.int .i64 0,.int .i64 0,.int .i64 0]) (t:=26) ?hr ?_; (case hd => rfl); (case hg => rfl); (case hr => first | (go_simp; done) | (go_simp; rfl)); intro gb515 hg w37 hbox hb; have n0_ := Aside0.mk (Kd.R_below (rA HO507.out) hb); have n1_ := Aside0.mk (blk_below (g:=gb489) (o:=.cells #[.int .i64 a0_0,.int .i64 a0_1,.int .i64 a0_2,.string a0_3] 29 (0,0)) (kA BK489.out) hb); have n2_ := Aside0.mk (blk_below (g:=gb490) (o:=.cells #[.int .i64 0,.int .i64 0,.int .i64 0,.int .i64 0,.int .i64 0,.int .i64 0] 26 (0,0)) (kA BK490.out) hb); have n3_ := Aside0.mk (below_step bA hb); have n4_ := Aside0.mk (hbox); have n5_ := Aside0.mk ((gw hg : w.heap.size ≤ gb515)); have n6_ := Aside0.mk ((gw hg : w.heap.size ≤ gb515)); have n7_ := Aside0.mk ((by rw [hg]; exact Nat.ne_of_lt (blk_lt (g:=gb489) (o:=.cells #[.int .i64 a0_0,.int .i64 a0_1,.int .i64 a0_2,.string a0_3] 29 (0,0)) (kA BK489.out)) : gb489 ≠ gb515)); have n8_ := Aside0.mk ((by rw [hg]; exact Nat.ne_of_gt (blk_lt (g:=gb489) (o:=.cells #[.int .i64 a0_0,.int .i64 a0_1,.int .i64 a0_2,.string a0_3] 29 (0,0)) (kA BK489.out)) : gb515 ≠ gb489)); have n9_ := Aside0.mk ((by rw [hg]; exact Nat.ne_of_lt (blk_lt (g:=gb490) (o:=.cells #[.int .i64 0,.int .i64 0,.int .i64 0,.int .i64 0,.int .i64 0,.int .i64 0] 26 (0,0)) (kA BK490.out)) : gb490 ≠ gb515)); have n10_ := Aside0.mk ((by rw [hg]; exact Nat.ne_of_gt (blk_lt (g:=gb490) (o:=.cells #[.int .i64 0,.int .i64 0,.int .i64 0,.int .i64 0,.int .i64 0,.int .i64 0] 26 (0,0)) (kA BK490.out)) : gb515 ≠ gb490)); clear HO507; clear BK489; clear BK490; clear HB; have HO507 := n0_; have BK489 := n1_; have BK490 := n2_; have HB := n3_; have BK515 := n4_; have GW515 := n5_; have GE515 := n6_; have NB489_515 := n7_; have NB515_489 := n8_; have NB490_515 := n9_; have NB515_490 := n10_; clear n0_ n1_ n2_ n3_ n4_ n5_ n6_ n7_ n8_ n9_ n10_; clear hb hbox hg; have hnb38 := NB515_489.out; have hnc38 := NB489_515.out; have hnb39 := NB515_490.out; have hnc39 := NB490_515.out; have hcz40_0 : w37.cell? ⟨gb515,0,none⟩ = some (.int .i64 0) := (blk_cell BK515.out 0).trans rfl; have hcz40_1 : w37.cell? ⟨gb515,1,none⟩ = some (.int .i64 0) := (blk_cell BK515.out 1).trans rfl; have hcz40_2 : w37.cell? ⟨gb515,2,none⟩ = some (.int .i64 0) := (blk_cell BK515.out 2).trans rfl; have hcz40_3 : w37.cell? ⟨gb515,3,none⟩ = some (.int .i64 0) := (blk_cell BK515.out 3).trans rfl; have hcz40_4 : w37.cell? ⟨gb515,4,none⟩ = some (.int .i64 0) := (blk_cell BK515.out 4).trans rfl; have hcz40_5 : w37.cell? ⟨gb515,5,none⟩ = some (.int .i64 0) := (blk_cell BK515.out 5).trans rfl; have hfz40_0 := blk_frozen BK515.out 0; have hfz40_1 := blk_frozen BK515.out 1; have hfz40_2 := blk_frozen BK515.out 2; have hfz40_3 := blk_frozen BK515.out 3; have hfz40_4 := blk_frozen BK515.out 4; have hfz40_5 := blk_frozen BK515.out 5; have hcz41_0 : w37.cell? ⟨gb490,0,none⟩ = some (.int .i64 0) := (blk_cell BK490.out 0).trans rfl; have hcz41_1 : w37.cell? ⟨gb490,1,none⟩ = some (.int .i64 0) := (blk_cell BK490.out 1).trans rfl; have hcz41_2 : w37.cell? ⟨gb490,2,none⟩ = some (.int .i64 0) := (blk_cell BK490.out 2).trans rfl; have hcz41_3 : w37.cell? ⟨gb490,3,none⟩ = some (.int .i64 0) := (blk_cell BK490.out 3).trans rfl; have hcz41_4 : w37.cell? ⟨gb490,4,none⟩ = some (.int .i64 0) := (blk_cell BK490.out 4).trans rfl; have hcz41_5 : w37.cell? ⟨gb490,5,none⟩ = some (.int .i64 0) := (blk_cell BK490.out 5).trans rfl; have hfz41_0 := blk_frozen BK490.out 0; have hfz41_1 := blk_frozen BK490.out 1; have hfz41_2 := blk_frozen BK490.out 2; have hfz41_3 := blk_frozen BK490.out 3; have hfz41_4 := blk_frozen BK490.out 4; have hfz41_5 := blk_frozen BK490.out 5))
    refine bodyPost_ret (results_ct rfl _ _ gb490 26 #[.int .i64 t508,.int .i64 t509,.int .i64 t510,.int .i64 t511,.int .i64 t512,.int .i64 t513] (0,0) _ rfl (by (with_reducible repeat (first | refine blk_drewN ?_ _ | refine blk_drew ?_ | refine blk_alloc ?_ _)); apply blkp6; (with_reducible repeat (first | refine blk_drewN ?_ _ | refine blk_drew ?_ | refine blk_alloc ?_ _)); refine blk_far ?_ NB490_515.out _; (with_reducible repeat (first | refine blk_drewN ?_ _ | refine blk_drew ?_ | refine blk_alloc ?_ _)); refine blk_far ?_ NB490_515.out _; (with_reducible repeat (first | refine blk_drewN ?_ _ | refine blk_drew ?_ | refine blk_alloc ?_ _)); refine blk_far ?_ NB490_515.out _; (with_reducible repeat (first | refine blk_drewN ?_ _ | refine blk_drew ?_ | refine blk_alloc ?_ _)); refine blk_far ?_ NB490_515.out _; (with_reducible repeat (first | refine blk_drewN ?_ _ | refine blk_drew ?_ | refine blk_alloc ?_ _)); refine blk_far ?_ NB490_515.out _; (with_reducible repeat (first | refine blk_drewN ?_ _ | refine blk_drew ?_ | refine blk_alloc ?_ _)); refine blk_far ?_ NB490_515.out _; (with_reducible repeat (first | refine blk_drewN ?_ _ | refine blk_drew ?_ | refine blk_alloc ?_ _)); exact BK490.out) Tryz.underlying26 rfl (by kernel_rfl)) rfl ?_
    exact ⟨by first | rfl | (simp [errW_none,errW_some] <;> rfl) | (simp [*,errW_none,errW_some] <;> rfl),bA⟩
   ·rw [if_neg c29] at H
    have c29b0 : (t514 == 0) = false := beq_eq_false_iff_ne.mpr c29
    have c29b1 : (t514 != 0) = true := bne_iff_ne.mpr c29
    simp only [Option.some.injEq,Prod.mk.injEq] at H
    obtain ⟨rfl,rfl,rfl,rfl,rfl,rfl,rfl⟩ := H
    go_enter Tryz.func16,Tryz.ntmps16
    go_wp2_with (first | ((with_reducible refine gate_dst (N:=4) rfl ?_); refine box_event ?hg (N:=4) ?hd (cs := #[.int .i64 a0_0,.int .i64 a0_1,.int .i64 a0_2,.string a0_3]) (t:=29) ?hr ?_; (case hd => rfl); (case hg => rfl); (case hr => first | (go_simp; done) | (go_simp; rfl)); intro gb489 hg w42 hbox hb; have n0_ := Aside0.mk (below_step bA hb); have n1_ := Aside0.mk (hbox); have n2_ := Aside0.mk ((gw hg : w.heap.size ≤ gb489)); have n3_ := Aside0.mk ((gw hg : w.heap.size ≤ gb489)); clear HB; have HB := n0_; have BK489 := n1_; have GW489 := n2_; have GE489 := n3_; clear n0_ n1_ n2_ n3_; clear hb hbox hg) | ((with_reducible refine gate_dst (N:=8) rfl ?_); refine box_event ?hg (N:=8) ?hd (cs := #[.int .i64 0,.int .i64 0,.int .i64 0,.int .i64 0,.int .i64 0,.int .i64 0]) (t:=26) ?hr ?_; (case hd => rfl); (case hg => rfl); (case hr => first | (go_simp; done) | (go_simp; rfl)); intro gb490 hg w43 hbox hb; have n0_ := Aside0.mk (blk_below (g:=gb489) (o:=.cells #[.int .i64 a0_0,.int .i64 a0_1,.int .i64 a0_2,.string a0_3] 29 (0,0)) (kA BK489.out) hb); have n1_ := Aside0.mk (below_step bA hb); have n2_ := Aside0.mk (hbox); have n3_ := Aside0.mk ((gw hg : w.heap.size ≤ gb490)); have n4_ := Aside0.mk ((gw hg : w.heap.size ≤ gb490)); have n5_ := Aside0.mk ((by rw [hg]; exact Nat.ne_of_lt (blk_lt (g:=gb489) (o:=.cells #[.int .i64 a0_0,.int .i64 a0_1,.int .i64 a0_2,.string a0_3] 29 (0,0)) (kA BK489.out)) : gb489 ≠ gb490)); have n6_ := Aside0.mk ((by rw [hg]; exact Nat.ne_of_gt (blk_lt (g:=gb489) (o:=.cells #[.int .i64 a0_0,.int .i64 a0_1,.int .i64 a0_2,.string a0_3] 29 (0,0)) (kA BK489.out)) : gb490 ≠ gb489)); clear BK489; clear HB; have BK489 := n0_; have HB := n1_; have BK490 := n2_; have GW490 := n3_; have GE490 := n4_; have NB489_490 := n5_; have NB490_489 := n6_; clear n0_ n1_ n2_ n3_ n4_ n5_ n6_; clear hb hbox hg; have hnb44 := NB489_490.out; have hnc44 := NB490_489.out; have hcz45_0 : w43.cell? ⟨gb489,0,none⟩ = some (.int .i64 a0_0) := (blk_cell BK489.out 0).trans rfl; have hcz45_1 : w43.cell? ⟨gb489,1,none⟩ = some (.int .i64 a0_1) := (blk_cell BK489.out 1).trans rfl; have hcz45_2 : w43.cell? ⟨gb489,2,none⟩ = some (.int .i64 a0_2) := (blk_cell BK489.out 2).trans rfl; have hcz45_3 : w43.cell? ⟨gb489,3,none⟩ = some (.string a0_3) := (blk_cell BK489.out 3).trans rfl; have hfz45_0 := blk_frozen BK489.out 0; have hfz45_1 := blk_frozen BK489.out 1; have hfz45_2 := blk_frozen BK489.out 2; have hfz45_3 := blk_frozen BK489.out 3) | ((with_reducible refine gate_callee (f:=30) rfl ?_); refine goesL_ (some 34) rfl rfl Tryz.func30 (by kernel_rfl) rfl #[.string a1] rfl mA ?_; (with_reducible refine (impl_readBuckets.calls k a1 t504 true _ ?side1 A26.out).mono ?_); (case side1 => exact HV.out.below bA); rintro e w46 ⟨v506,rfl,ho0,hb⟩; refine ⟨_,rfl,?_⟩; have n0_ := Aside0.mk (Kd.R_lower ho0 (below_size bA)); have n1_ := Aside0.mk (blk_below (g:=gb489) (o:=.cells #[.int .i64 a0_0,.int .i64 a0_1,.int .i64 a0_2,.string a0_3] 29 (0,0)) (kA BK489.out) hb); have n2_ := Aside0.mk (blk_below (g:=gb490) (o:=.cells #[.int .i64 0,.int .i64 0,.int .i64 0,.int .i64 0,.int .i64 0,.int .i64 0] 26 (0,0)) (kA BK490.out) hb); have n3_ := Aside0.mk (below_step bA hb); clear BK489; clear BK490; clear HB; have HO507 := n0_; have BK489 := n1_; have BK490 := n2_; have HB := n3_; clear n0_ n1_ n2_ n3_; (try clear hb); (try clear hb2); (try clear hk); (try clear hi); (try clear ho0); obtain ⟨Ao47,co47,eo47⟩ := Kd.R_slice HO507.out; subst eo47) | ((with_reducible refine gate_callee (f:=31) rfl ?_); refine goesL_ (some 41) rfl rfl Tryz.func31 (by kernel_rfl) rfl #[.slice Ao47 t504.length co47,.int .i64 a2,.int .i64 a3] rfl mA ?_; (with_reducible refine (impl_fold.calls k _ _ t504 a2 a3 t508 t509 t510 t511 t512 t513 t514 _ ?side1 ?side2 A27.out).mono ?_); (case side1 => repeat (first | exact (Kd.R_reads' HO507.out).2.2 | (with_reducible refine Kd.C_alloc ?_ _) | (with_reducible refine Kd.C_drewN ?_ _) | (with_reducible refine Kd.C_drew ?_))); (case side2 => exact (Kd.R_reads' HO507.out).2.1); rintro e w48 ⟨rfl,hb⟩; refine ⟨_,rfl,?_⟩; have n0_ := Aside0.mk (Kd.R_below (rA HO507.out) hb); have n1_ := Aside0.mk (blk_below (g:=gb489) (o:=.cells #[.int .i64 a0_0,.int .i64 a0_1,.int .i64 a0_2,.string a0_3] 29 (0,0)) (kA BK489.out) hb); have n2_ := Aside0.mk (blk_below (g:=gb490) (o:=.cells #[.int .i64 0,.int .i64 0,.int .i64 0,.int .i64 0,.int .i64 0,.int .i64 0] 26 (0,0)) (kA BK490.out) hb); have n3_ := Aside0.mk (below_step bA hb); clear HO507; clear BK489; clear BK490; clear HB; have HO507 := n0_; have BK489 := n1_; have BK490 := n2_; have HB := n3_; clear n0_ n1_ n2_ n3_; (try clear hb); (try clear hb2); (try clear hk); (try clear hi)) | ((with_reducible refine gate_dst (N:=14) rfl ?_); refine box_event ?hg (N:=14) ?hd (cs := #[.int .i64 0,.int .i64 0,.int .i64 0,.int .i64 0,.int .i64 0,.int .i64 0]) (t:=26) ?hr ?_; (case hd => rfl); (case hg => rfl); (case hr => first | (go_simp; done) | (go_simp; rfl)); intro gb515 hg w49 hbox hb; have n0_ := Aside0.mk (Kd.R_below (rA HO507.out) hb); have n1_ := Aside0.mk (blk_below (g:=gb489) (o:=.cells #[.int .i64 a0_0,.int .i64 a0_1,.int .i64 a0_2,.string a0_3] 29 (0,0)) (kA BK489.out) hb); have n2_ := Aside0.mk (blk_below (g:=gb490) (o:=.cells #[.int .i64 0,.int .i64 0,.int .i64 0,.int .i64 0,.int .i64 0,.int .i64 0] 26 (0,0)) (kA BK490.out) hb); have n3_ := Aside0.mk (below_step bA hb); have n4_ := Aside0.mk (hbox); have n5_ := Aside0.mk ((gw hg : w.heap.size ≤ gb515)); have n6_ := Aside0.mk ((gw hg : w.heap.size ≤ gb515)); have n7_ := Aside0.mk ((by rw [hg]; exact Nat.ne_of_lt (blk_lt (g:=gb489) (o:=.cells #[.int .i64 a0_0,.int .i64 a0_1,.int .i64 a0_2,.string a0_3] 29 (0,0)) (kA BK489.out)) : gb489 ≠ gb515)); have n8_ := Aside0.mk ((by rw [hg]; exact Nat.ne_of_gt (blk_lt (g:=gb489) (o:=.cells #[.int .i64 a0_0,.int .i64 a0_1,.int .i64 a0_2,.string a0_3] 29 (0,0)) (kA BK489.out)) : gb515 ≠ gb489)); have n9_ := Aside0.mk ((by rw [hg]; exact Nat.ne_of_lt (blk_lt (g:=gb490) (o:=.cells #[.int .i64 0,.int .i64 0,.int .i64 0,.int .i64 0,.int .i64 0,.int .i64 0] 26 (0,0)) (kA BK490.out)) : gb490 ≠ gb515)); have n10_ := Aside0.mk ((by rw [hg]; exact Nat.ne_of_gt (blk_lt (g:=gb490) (o:=.cells #[.int .i64 0,.int .i64 0,.int .i64 0,.int .i64 0,.int .i64 0,.int .i64 0] 26 (0,0)) (kA BK490.out)) : gb515 ≠ gb490)); clear HO507; clear BK489; clear BK490; clear HB; have HO507 := n0_; have BK489 := n1_; have BK490 := n2_; have HB := n3_; have BK515 := n4_; have GW515 := n5_; have GE515 := n6_; have NB489_515 := n7_; have NB515_489 := n8_; have NB490_515 := n9_; have NB515_490 := n10_; clear n0_ n1_ n2_ n3_ n4_ n5_ n6_ n7_ n8_ n9_ n10_; clear hb hbox hg; have hnb50 := NB515_489.out; have hnc50 := NB489_515.out; have hnb51 := NB515_490.out; have hnc51 := NB490_515.out; have hcz52_0 : w49.cell? ⟨gb515,0,none⟩ = some (.int .i64 0) := (blk_cell BK515.out 0).trans rfl; have hcz52_1 : w49.cell? ⟨gb515,1,none⟩ = some (.int .i64 0) := (blk_cell BK515.out 1).trans rfl; have hcz52_2 : w49.cell? ⟨gb515,2,none⟩ = some (.int .i64 0) := (blk_cell BK515.out 2).trans rfl; have hcz52_3 : w49.cell? ⟨gb515,3,none⟩ = some (.int .i64 0) := (blk_cell BK515.out 3).trans rfl; have hcz52_4 : w49.cell? ⟨gb515,4,none⟩ = some (.int .i64 0) := (blk_cell BK515.out 4).trans rfl; have hcz52_5 : w49.cell? ⟨gb515,5,none⟩ = some (.int .i64 0) := (blk_cell BK515.out 5).trans rfl; have hfz52_0 := blk_frozen BK515.out 0; have hfz52_1 := blk_frozen BK515.out 1; have hfz52_2 := blk_frozen BK515.out 2; have hfz52_3 := blk_frozen BK515.out 3; have hfz52_4 := blk_frozen BK515.out 4; have hfz52_5 := blk_frozen BK515.out 5; have hcz53_0 : w49.cell? ⟨gb490,0,none⟩ = some (.int .i64 0) := (blk_cell BK490.out 0).trans rfl; have hcz53_1 : w49.cell? ⟨gb490,1,none⟩ = some (.int .i64 0) := (blk_cell BK490.out 1).trans rfl; have hcz53_2 : w49.cell? ⟨gb490,2,none⟩ = some (.int .i64 0) := (blk_cell BK490.out 2).trans rfl; have hcz53_3 : w49.cell? ⟨gb490,3,none⟩ = some (.int .i64 0) := (blk_cell BK490.out 3).trans rfl; have hcz53_4 : w49.cell? ⟨gb490,4,none⟩ = some (.int .i64 0) := (blk_cell BK490.out 4).trans rfl; have hcz53_5 : w49.cell? ⟨gb490,5,none⟩ = some (.int .i64 0) := (blk_cell BK490.out 5).trans rfl; have hfz53_0 := blk_frozen BK490.out 0; have hfz53_1 := blk_frozen BK490.out 1; have hfz53_2 := blk_frozen BK490.out 2; have hfz53_3 := blk_frozen BK490.out 3; have hfz53_4 := blk_frozen BK490.out 4; have hfz53_5 := blk_frozen BK490.out 5))
    refine bodyPost_ret (results_ct rfl _ _ gb490 26 #[.int .i64 0,.int .i64 0,.int .i64 0,.int .i64 0,.int .i64 0,.int .i64 0] (0,0) _ rfl (by (with_reducible repeat (first | refine blk_drewN ?_ _ | refine blk_drew ?_ | refine blk_alloc ?_ _)); apply blkp6; (with_reducible repeat (first | refine blk_drewN ?_ _ | refine blk_drew ?_ | refine blk_alloc ?_ _)); refine blk_far ?_ NB490_515.out _; (with_reducible repeat (first | refine blk_drewN ?_ _ | refine blk_drew ?_ | refine blk_alloc ?_ _)); refine blk_far ?_ NB490_515.out _; (with_reducible repeat (first | refine blk_drewN ?_ _ | refine blk_drew ?_ | refine blk_alloc ?_ _)); refine blk_far ?_ NB490_515.out _; (with_reducible repeat (first | refine blk_drewN ?_ _ | refine blk_drew ?_ | refine blk_alloc ?_ _)); refine blk_far ?_ NB490_515.out _; (with_reducible repeat (first | refine blk_drewN ?_ _ | refine blk_drew ?_ | refine blk_alloc ?_ _)); refine blk_far ?_ NB490_515.out _; (with_reducible repeat (first | refine blk_drewN ?_ _ | refine blk_drew ?_ | refine blk_alloc ?_ _)); refine blk_far ?_ NB490_515.out _; (with_reducible repeat (first | refine blk_drewN ?_ _ | refine blk_drew ?_ | refine blk_alloc ?_ _)); exact BK490.out) Tryz.underlying26 rfl (by kernel_rfl)) rfl ?_
    exact ⟨by first | rfl | (simp [errW_none,errW_some] <;> rfl) | (simp [*,errW_none,errW_some] <;> rfl),bA⟩
  ·replace c28 := Bool.eq_false_iff.mpr c28
   subst c28
   rw [if_neg (show ¬ (false = true) by decide)] at H
   simp only [Option.some.injEq,Prod.mk.injEq] at H
   obtain ⟨rfl,rfl,rfl,rfl,rfl,rfl,rfl⟩ := H
   go_enter Tryz.func16,Tryz.ntmps16
   go_wp2_with (first | ((with_reducible refine gate_dst (N:=4) rfl ?_); refine box_event ?hg (N:=4) ?hd (cs := #[.int .i64 a0_0,.int .i64 a0_1,.int .i64 a0_2,.string a0_3]) (t:=29) ?hr ?_; (case hd => rfl); (case hg => rfl); (case hr => first | (go_simp; done) | (go_simp; rfl)); intro gb489 hg w54 hbox hb; have n0_ := Aside0.mk (below_step bA hb); have n1_ := Aside0.mk (hbox); have n2_ := Aside0.mk ((gw hg : w.heap.size ≤ gb489)); have n3_ := Aside0.mk ((gw hg : w.heap.size ≤ gb489)); clear HB; have HB := n0_; have BK489 := n1_; have GW489 := n2_; have GE489 := n3_; clear n0_ n1_ n2_ n3_; clear hb hbox hg) | ((with_reducible refine gate_dst (N:=8) rfl ?_); refine box_event ?hg (N:=8) ?hd (cs := #[.int .i64 0,.int .i64 0,.int .i64 0,.int .i64 0,.int .i64 0,.int .i64 0]) (t:=26) ?hr ?_; (case hd => rfl); (case hg => rfl); (case hr => first | (go_simp; done) | (go_simp; rfl)); intro gb490 hg w55 hbox hb; have n0_ := Aside0.mk (blk_below (g:=gb489) (o:=.cells #[.int .i64 a0_0,.int .i64 a0_1,.int .i64 a0_2,.string a0_3] 29 (0,0)) (kA BK489.out) hb); have n1_ := Aside0.mk (below_step bA hb); have n2_ := Aside0.mk (hbox); have n3_ := Aside0.mk ((gw hg : w.heap.size ≤ gb490)); have n4_ := Aside0.mk ((gw hg : w.heap.size ≤ gb490)); have n5_ := Aside0.mk ((by rw [hg]; exact Nat.ne_of_lt (blk_lt (g:=gb489) (o:=.cells #[.int .i64 a0_0,.int .i64 a0_1,.int .i64 a0_2,.string a0_3] 29 (0,0)) (kA BK489.out)) : gb489 ≠ gb490)); have n6_ := Aside0.mk ((by rw [hg]; exact Nat.ne_of_gt (blk_lt (g:=gb489) (o:=.cells #[.int .i64 a0_0,.int .i64 a0_1,.int .i64 a0_2,.string a0_3] 29 (0,0)) (kA BK489.out)) : gb490 ≠ gb489)); clear BK489; clear HB; have BK489 := n0_; have HB := n1_; have BK490 := n2_; have GW490 := n3_; have GE490 := n4_; have NB489_490 := n5_; have NB490_489 := n6_; clear n0_ n1_ n2_ n3_ n4_ n5_ n6_; clear hb hbox hg; have hnb56 := NB489_490.out; have hnc56 := NB490_489.out; have hcz57_0 : w55.cell? ⟨gb489,0,none⟩ = some (.int .i64 a0_0) := (blk_cell BK489.out 0).trans rfl; have hcz57_1 : w55.cell? ⟨gb489,1,none⟩ = some (.int .i64 a0_1) := (blk_cell BK489.out 1).trans rfl; have hcz57_2 : w55.cell? ⟨gb489,2,none⟩ = some (.int .i64 a0_2) := (blk_cell BK489.out 2).trans rfl; have hcz57_3 : w55.cell? ⟨gb489,3,none⟩ = some (.string a0_3) := (blk_cell BK489.out 3).trans rfl; have hfz57_0 := blk_frozen BK489.out 0; have hfz57_1 := blk_frozen BK489.out 1; have hfz57_2 := blk_frozen BK489.out 2; have hfz57_3 := blk_frozen BK489.out 3) | ((with_reducible refine gate_callee (f:=30) rfl ?_); refine goesL_ (some 34) rfl rfl Tryz.func30 (by kernel_rfl) rfl #[.string a1] rfl mA ?_; (with_reducible refine (impl_readBuckets.calls k a1 t504 false _ ?side1 A26.out).mono ?_); (case side1 => exact HV.out.below bA); rintro e w58 ⟨v506,rfl,ho0,hb⟩; refine ⟨_,rfl,?_⟩; have n0_ := Aside0.mk (Kd.R_lower ho0 (below_size bA)); have n1_ := Aside0.mk (blk_below (g:=gb489) (o:=.cells #[.int .i64 a0_0,.int .i64 a0_1,.int .i64 a0_2,.string a0_3] 29 (0,0)) (kA BK489.out) hb); have n2_ := Aside0.mk (blk_below (g:=gb490) (o:=.cells #[.int .i64 0,.int .i64 0,.int .i64 0,.int .i64 0,.int .i64 0,.int .i64 0] 26 (0,0)) (kA BK490.out) hb); have n3_ := Aside0.mk (below_step bA hb); clear BK489; clear BK490; clear HB; have HO507 := n0_; have BK489 := n1_; have BK490 := n2_; have HB := n3_; clear n0_ n1_ n2_ n3_; (try clear hb); (try clear hb2); (try clear hk); (try clear hi); (try clear ho0); obtain ⟨Ao59,co59,eo59⟩ := Kd.R_slice HO507.out; subst eo59) | ((with_reducible refine gate_callee (f:=31) rfl ?_); refine goesL_ (some 41) rfl rfl Tryz.func31 (by kernel_rfl) rfl #[.slice Ao59 t504.length co59,.int .i64 a2,.int .i64 a3] rfl mA ?_; (with_reducible refine (impl_fold.calls k _ _ t504 a2 a3 t508 t509 t510 t511 t512 t513 t514 _ ?side1 ?side2 A27.out).mono ?_); (case side1 => repeat (first | exact (Kd.R_reads' HO507.out).2.2 | (with_reducible refine Kd.C_alloc ?_ _) | (with_reducible refine Kd.C_drewN ?_ _) | (with_reducible refine Kd.C_drew ?_))); (case side2 => exact (Kd.R_reads' HO507.out).2.1); rintro e w60 ⟨rfl,hb⟩; refine ⟨_,rfl,?_⟩; have n0_ := Aside0.mk (Kd.R_below (rA HO507.out) hb); have n1_ := Aside0.mk (blk_below (g:=gb489) (o:=.cells #[.int .i64 a0_0,.int .i64 a0_1,.int .i64 a0_2,.string a0_3] 29 (0,0)) (kA BK489.out) hb); have n2_ := Aside0.mk (blk_below (g:=gb490) (o:=.cells #[.int .i64 0,.int .i64 0,.int .i64 0,.int .i64 0,.int .i64 0,.int .i64 0] 26 (0,0)) (kA BK490.out) hb); have n3_ := Aside0.mk (below_step bA hb); clear HO507; clear BK489; clear BK490; clear HB; have HO507 := n0_; have BK489 := n1_; have BK490 := n2_; have HB := n3_; clear n0_ n1_ n2_ n3_; (try clear hb); (try clear hb2); (try clear hk); (try clear hi)) | ((with_reducible refine gate_dst (N:=14) rfl ?_); refine box_event ?hg (N:=14) ?hd (cs := #[.int .i64 0,.int .i64 0,.int .i64 0,.int .i64 0,.int .i64 0,.int .i64 0]) (t:=26) ?hr ?_; (case hd => rfl); (case hg => rfl); (case hr => first | (go_simp; done) | (go_simp; rfl)); intro gb515 hg w61 hbox hb; have n0_ := Aside0.mk (Kd.R_below (rA HO507.out) hb); have n1_ := Aside0.mk (blk_below (g:=gb489) (o:=.cells #[.int .i64 a0_0,.int .i64 a0_1,.int .i64 a0_2,.string a0_3] 29 (0,0)) (kA BK489.out) hb); have n2_ := Aside0.mk (blk_below (g:=gb490) (o:=.cells #[.int .i64 0,.int .i64 0,.int .i64 0,.int .i64 0,.int .i64 0,.int .i64 0] 26 (0,0)) (kA BK490.out) hb); have n3_ := Aside0.mk (below_step bA hb); have n4_ := Aside0.mk (hbox); have n5_ := Aside0.mk ((gw hg : w.heap.size ≤ gb515)); have n6_ := Aside0.mk ((gw hg : w.heap.size ≤ gb515)); have n7_ := Aside0.mk ((by rw [hg]; exact Nat.ne_of_lt (blk_lt (g:=gb489) (o:=.cells #[.int .i64 a0_0,.int .i64 a0_1,.int .i64 a0_2,.string a0_3] 29 (0,0)) (kA BK489.out)) : gb489 ≠ gb515)); have n8_ := Aside0.mk ((by rw [hg]; exact Nat.ne_of_gt (blk_lt (g:=gb489) (o:=.cells #[.int .i64 a0_0,.int .i64 a0_1,.int .i64 a0_2,.string a0_3] 29 (0,0)) (kA BK489.out)) : gb515 ≠ gb489)); have n9_ := Aside0.mk ((by rw [hg]; exact Nat.ne_of_lt (blk_lt (g:=gb490) (o:=.cells #[.int .i64 0,.int .i64 0,.int .i64 0,.int .i64 0,.int .i64 0,.int .i64 0] 26 (0,0)) (kA BK490.out)) : gb490 ≠ gb515)); have n10_ := Aside0.mk ((by rw [hg]; exact Nat.ne_of_gt (blk_lt (g:=gb490) (o:=.cells #[.int .i64 0,.int .i64 0,.int .i64 0,.int .i64 0,.int .i64 0,.int .i64 0] 26 (0,0)) (kA BK490.out)) : gb515 ≠ gb490)); clear HO507; clear BK489; clear BK490; clear HB; have HO507 := n0_; have BK489 := n1_; have BK490 := n2_; have HB := n3_; have BK515 := n4_; have GW515 := n5_; have GE515 := n6_; have NB489_515 := n7_; have NB515_489 := n8_; have NB490_515 := n9_; have NB515_490 := n10_; clear n0_ n1_ n2_ n3_ n4_ n5_ n6_ n7_ n8_ n9_ n10_; clear hb hbox hg; have hnb62 := NB515_489.out; have hnc62 := NB489_515.out; have hnb63 := NB515_490.out; have hnc63 := NB490_515.out; have hcz64_0 : w61.cell? ⟨gb515,0,none⟩ = some (.int .i64 0) := (blk_cell BK515.out 0).trans rfl; have hcz64_1 : w61.cell? ⟨gb515,1,none⟩ = some (.int .i64 0) := (blk_cell BK515.out 1).trans rfl; have hcz64_2 : w61.cell? ⟨gb515,2,none⟩ = some (.int .i64 0) := (blk_cell BK515.out 2).trans rfl; have hcz64_3 : w61.cell? ⟨gb515,3,none⟩ = some (.int .i64 0) := (blk_cell BK515.out 3).trans rfl; have hcz64_4 : w61.cell? ⟨gb515,4,none⟩ = some (.int .i64 0) := (blk_cell BK515.out 4).trans rfl; have hcz64_5 : w61.cell? ⟨gb515,5,none⟩ = some (.int .i64 0) := (blk_cell BK515.out 5).trans rfl; have hfz64_0 := blk_frozen BK515.out 0; have hfz64_1 := blk_frozen BK515.out 1; have hfz64_2 := blk_frozen BK515.out 2; have hfz64_3 := blk_frozen BK515.out 3; have hfz64_4 := blk_frozen BK515.out 4; have hfz64_5 := blk_frozen BK515.out 5; have hcz65_0 : w61.cell? ⟨gb490,0,none⟩ = some (.int .i64 0) := (blk_cell BK490.out 0).trans rfl; have hcz65_1 : w61.cell? ⟨gb490,1,none⟩ = some (.int .i64 0) := (blk_cell BK490.out 1).trans rfl; have hcz65_2 : w61.cell? ⟨gb490,2,none⟩ = some (.int .i64 0) := (blk_cell BK490.out 2).trans rfl; have hcz65_3 : w61.cell? ⟨gb490,3,none⟩ = some (.int .i64 0) := (blk_cell BK490.out 3).trans rfl; have hcz65_4 : w61.cell? ⟨gb490,4,none⟩ = some (.int .i64 0) := (blk_cell BK490.out 4).trans rfl; have hcz65_5 : w61.cell? ⟨gb490,5,none⟩ = some (.int .i64 0) := (blk_cell BK490.out 5).trans rfl; have hfz65_0 := blk_frozen BK490.out 0; have hfz65_1 := blk_frozen BK490.out 1; have hfz65_2 := blk_frozen BK490.out 2; have hfz65_3 := blk_frozen BK490.out 3; have hfz65_4 := blk_frozen BK490.out 4; have hfz65_5 := blk_frozen BK490.out 5))
   refine bodyPost_ret (results_ct rfl _ _ gb490 26 #[.int .i64 0,.int .i64 0,.int .i64 0,.int .i64 0,.int .i64 0,.int .i64 0] (0,0) _ rfl (by (with_reducible repeat (first | refine blk_drewN ?_ _ | refine blk_drew ?_ | refine blk_alloc ?_ _)); apply blkp6; (with_reducible repeat (first | refine blk_drewN ?_ _ | refine blk_drew ?_ | refine blk_alloc ?_ _)); refine blk_far ?_ NB490_515.out _; (with_reducible repeat (first | refine blk_drewN ?_ _ | refine blk_drew ?_ | refine blk_alloc ?_ _)); refine blk_far ?_ NB490_515.out _; (with_reducible repeat (first | refine blk_drewN ?_ _ | refine blk_drew ?_ | refine blk_alloc ?_ _)); refine blk_far ?_ NB490_515.out _; (with_reducible repeat (first | refine blk_drewN ?_ _ | refine blk_drew ?_ | refine blk_alloc ?_ _)); refine blk_far ?_ NB490_515.out _; (with_reducible repeat (first | refine blk_drewN ?_ _ | refine blk_drew ?_ | refine blk_alloc ?_ _)); refine blk_far ?_ NB490_515.out _; (with_reducible repeat (first | refine blk_drewN ?_ _ | refine blk_drew ?_ | refine blk_alloc ?_ _)); refine blk_far ?_ NB490_515.out _; (with_reducible repeat (first | refine blk_drewN ?_ _ | refine blk_drew ?_ | refine blk_alloc ?_ _)); exact BK490.out) Tryz.underlying26 rfl (by kernel_rfl)) rfl ?_
   exact ⟨by first | rfl | (simp [errW_none,errW_some] <;> rfl) | (simp [*,errW_none,errW_some] <;> rfl),bA⟩

end Go.Proofs.YtleifhnoaaphmaaGreatDoor.XFnExactWindowOf
