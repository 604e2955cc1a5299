-- Printed by this session's own program wip/tools/xprint.py, which widens the kit's print. Not trusted: Lean checks it.
import Derived.Test.YtbdhpmamlibmhaaDoorXFnExactReadBucketsx0
import Derived.Test.YtbdhpmamlibmhaaDoorXFnExactReadBucketsx1
import Derived.Test.YtbdhpmamlibmhaaDoorXFnExactReadBucketsx3
namespace Go.Proofs.YtbdhpmamlibmhaaDoor.XFnExactReadBuckets
open List (setIfInBounds_toArray set_cons_zero set_cons_succ)
open Go.RowKit Go.Proofs.YtbdhpmamlibmhaaDoorW.PrintWords Go.Proofs.YtbdhpmamlibmhaaDoorW.PrintLast Go.Proofs.YtbdhpmamlibmhaaDoorW.PrintMore
attribute [local go_sem] max2_int min2_int max_two min_two max_three min_three max_four min_four   -- for this text's walks alone
set_option linter.unusedVariables false
set_option linter.unusedSimpArgs false

attribute [local go_sem high] eqA38
/-! ### spec_AggOK: function 101 -/
def spec_AggOK.f (a0_0 : Int) (a0_1 : Int) (a0_2 : Int) (a0_3 : Int) (a0_4 : Int) (a0_5 : Int) : Option (Bool) := if a0_0 = 0 then (some (a0_0 == 0 && (a0_1 == 0 && (a0_2 == 0 && (a0_3 == 0 && (a0_4 == 0 && (a0_5 == 0))))))) else ((spec_l01In.f a0_0 1 100000).bind fun t138 => (if t138 = true then ((spec_l02Value.f a0_2).bind fun t139 => (if t139 = true then ((spec_l02Value.f a0_3).bind fun t140 => (if t140 = true then ((spec_l01In.f a0_4 a0_2 a0_3).bind fun t141 => (if t141 = true then ((spec_l01In.f a0_5 a0_2 a0_3).bind fun t142 => (if t142 = true then ((spec_l01In.f a0_1 (wrap64 (a0_0 * a0_2)) (wrap64 (a0_0 * a0_3))).bind fun t143 => (some t143)) else (some false))) else (some false))) else (some false))) else (some false))) else (some false)))
set_option maxHeartbeats 8000000 in
set_option maxRecDepth 100000 in
theorem spec_AggOK.calls (a0_0 : Int) (a0_1 : Int) (a0_2 : Int) (a0_3 : Int) (a0_4 : Int) (a0_5 : Int) (r : Bool) (w : World) (h : spec_AggOK.f a0_0 a0_1 a0_2 a0_3 a0_4 a0_5 = some r) :
  Calls Tryd.prog 101 #[.agg #[.int .i64 a0_0,.int .i64 a0_1,.int .i64 a0_2,.int .i64 a0_3,.int .i64 a0_4,.int .i64 a0_5]] w fun e w' => e = .returned (.bool r) ∧ Below w.heap.size w w' := by
 have hu38 := Tryd.underlying38
 have HB := Aside0.mk (Below.refl w.heap.size w)
 have H : (if a0_0 = 0 then (some (a0_0 == 0 && (a0_1 == 0 && (a0_2 == 0 && (a0_3 == 0 && (a0_4 == 0 && (a0_5 == 0))))))) else ((spec_l01In.f a0_0 1 100000).bind fun t138 => (if t138 = true then ((spec_l02Value.f a0_2).bind fun t139 => (if t139 = true then ((spec_l02Value.f a0_3).bind fun t140 => (if t140 = true then ((spec_l01In.f a0_4 a0_2 a0_3).bind fun t141 => (if t141 = true then ((spec_l01In.f a0_5 a0_2 a0_3).bind fun t142 => (if t142 = true then ((spec_l01In.f a0_1 (wrap64 (a0_0 * a0_2)) (wrap64 (a0_0 * a0_3))).bind fun t143 => (some t143)) else (some false))) else (some false))) else (some false))) else (some false))) else (some false)))) = some r := h
 clear h
 by_cases c2 : a0_0 = 0
 ·rw [if_pos c2] at H
  have c2b0 : (a0_0 == 0) = true := beq_iff_eq.mpr c2
  have c2b1 : (a0_0 != 0) = false := bne_eq_false_iff_eq.mpr c2
  clear c2
  obtain rfl := Option.some.inj H
  go_enter Tryd.func101,Tryd.ntmps101
  go_wp2_with (first | ((with_reducible refine gate_dst (N:=1) rfl ?_); refine box_event ?hg (N:=1) ?hd (cs := #[.int .i64 a0_0,.int .i64 a0_1,.int .i64 a0_2,.int .i64 a0_3,.int .i64 a0_4,.int .i64 a0_5]) (t:=38) ?hr ?_; (case hd => rfl); (case hg => rfl); (case hr => first | (go_simp; done) | (go_simp; rfl)); intro gb137 hg w3 hbox hb; have n0_ := Aside0.mk (below_step (by repeat (first | (with_reducible first | exact HB.out | apply below_alloc | apply pw_below_drewN | apply below_drew1) | exact HB.out)) hb); have n1_ := Aside0.mk (hbox); have n2_ := Aside0.mk ((by rw [hg]; exact (below_size (by repeat (first | (with_reducible first | exact HB.out | apply below_alloc | apply pw_below_drewN | apply below_drew1) | exact HB.out))) : w.heap.size ≤ gb137)); have n3_ := Aside0.mk ((by rw [hg]; exact (below_size (by repeat (first | (with_reducible first | exact HB.out | apply below_alloc | apply pw_below_drewN | apply below_drew1) | exact HB.out))) : w.heap.size ≤ gb137)); clear HB; have HB := n0_; have BK137 := n1_; have GW137 := n2_; have GE137 := n3_; clear n0_ n1_ n2_ n3_; clear hb hbox hg; have hcz4_0 : w3.cell? ⟨gb137,0,none⟩ = some (.int .i64 a0_0) := (blk_cell BK137.out 0).trans rfl; have hcz4_1 : w3.cell? ⟨gb137,1,none⟩ = some (.int .i64 a0_1) := (blk_cell BK137.out 1).trans rfl; have hcz4_2 : w3.cell? ⟨gb137,2,none⟩ = some (.int .i64 a0_2) := (blk_cell BK137.out 2).trans rfl; have hcz4_3 : w3.cell? ⟨gb137,3,none⟩ = some (.int .i64 a0_3) := (blk_cell BK137.out 3).trans rfl; have hcz4_4 : w3.cell? ⟨gb137,4,none⟩ = some (.int .i64 a0_4) := (blk_cell BK137.out 4).trans rfl; have hcz4_5 : w3.cell? ⟨gb137,5,none⟩ = some (.int .i64 a0_5) := (blk_cell BK137.out 5).trans rfl; have hfz4_0 := blk_frozen BK137.out 0; have hfz4_1 := blk_frozen BK137.out 1; have hfz4_2 := blk_frozen BK137.out 2; have hfz4_3 := blk_frozen BK137.out 3; have hfz4_4 := blk_frozen BK137.out 4; have hfz4_5 := blk_frozen BK137.out 5))
  go_ret
  exact ⟨by first | rfl | (simp only [i64_w,i32_w] <;> rfl) | (simp [errW_none,errW_some] <;> rfl) | (simp [*,errW_none,errW_some] <;> rfl),by repeat (first | (with_reducible first | exact HB.out | apply below_alloc | apply pw_below_drewN | apply below_drew1 | refine below_set ?_ GE137.out) | exact HB.out)⟩
 ·rw [if_neg c2] at H
  have c2b0 : (a0_0 == 0) = false := beq_eq_false_iff_ne.mpr c2
  have c2b1 : (a0_0 != 0) = true := bne_iff_ne.mpr c2
  replace H := Option.bind_eq_some_iff.mp H
  obtain ⟨t138,A50,H⟩ := H
  replace H : (if t138 = true then ((spec_l02Value.f a0_2).bind fun t139 => (if t139 = true then ((spec_l02Value.f a0_3).bind fun t140 => (if t140 = true then ((spec_l01In.f a0_4 a0_2 a0_3).bind fun t141 => (if t141 = true then ((spec_l01In.f a0_5 a0_2 a0_3).bind fun t142 => (if t142 = true then ((spec_l01In.f a0_1 (wrap64 (a0_0 * a0_2)) (wrap64 (a0_0 * a0_3))).bind fun t143 => (some t143)) else (some false))) else (some false))) else (some false))) else (some false))) else (some false)) = some r := H
  have A5 := Aside0.mk A50
  clear A50
  by_cases c6 : t138 = true
  ·subst c6
   have H1 : ((spec_l02Value.f a0_2).bind fun t139 => (if t139 = true then ((spec_l02Value.f a0_3).bind fun t140 => (if t140 = true then ((spec_l01In.f a0_4 a0_2 a0_3).bind fun t141 => (if t141 = true then ((spec_l01In.f a0_5 a0_2 a0_3).bind fun t142 => (if t142 = true then ((spec_l01In.f a0_1 (wrap64 (a0_0 * a0_2)) (wrap64 (a0_0 * a0_3))).bind fun t143 => (some t143)) else (some false))) else (some false))) else (some false))) else (some false))) = some r := by rw [if_pos rfl] at H; exact H
   clear H
   have H := H1
   clear H1
   replace H := Option.bind_eq_some_iff.mp H
   obtain ⟨t139,A70,H⟩ := H
   replace H : (if t139 = true then ((spec_l02Value.f a0_3).bind fun t140 => (if t140 = true then ((spec_l01In.f a0_4 a0_2 a0_3).bind fun t141 => (if t141 = true then ((spec_l01In.f a0_5 a0_2 a0_3).bind fun t142 => (if t142 = true then ((spec_l01In.f a0_1 (wrap64 (a0_0 * a0_2)) (wrap64 (a0_0 * a0_3))).bind fun t143 => (some t143)) else (some false))) else (some false))) else (some false))) else (some false)) = some r := H
   have A7 := Aside0.mk A70
   clear A70
   by_cases c8 : t139 = true
   ·subst c8
    have H1 : ((spec_l02Value.f a0_3).bind fun t140 => (if t140 = true then ((spec_l01In.f a0_4 a0_2 a0_3).bind fun t141 => (if t141 = true then ((spec_l01In.f a0_5 a0_2 a0_3).bind fun t142 => (if t142 = true then ((spec_l01In.f a0_1 (wrap64 (a0_0 * a0_2)) (wrap64 (a0_0 * a0_3))).bind fun t143 => (some t143)) else (some false))) else (some false))) else (some false))) = some r := by rw [if_pos rfl] at H; exact H
    clear H
    have H := H1
    clear H1
    replace H := Option.bind_eq_some_iff.mp H
    obtain ⟨t140,A90,H⟩ := H
    replace H : (if t140 = true then ((spec_l01In.f a0_4 a0_2 a0_3).bind fun t141 => (if t141 = true then ((spec_l01In.f a0_5 a0_2 a0_3).bind fun t142 => (if t142 = true then ((spec_l01In.f a0_1 (wrap64 (a0_0 * a0_2)) (wrap64 (a0_0 * a0_3))).bind fun t143 => (some t143)) else (some false))) else (some false))) else (some false)) = some r := H
    have A9 := Aside0.mk A90
    clear A90
    by_cases c10 : t140 = true
    ·subst c10
     have H1 : ((spec_l01In.f a0_4 a0_2 a0_3).bind fun t141 => (if t141 = true then ((spec_l01In.f a0_5 a0_2 a0_3).bind fun t142 => (if t142 = true then ((spec_l01In.f a0_1 (wrap64 (a0_0 * a0_2)) (wrap64 (a0_0 * a0_3))).bind fun t143 => (some t143)) else (some false))) else (some false))) = some r := by rw [if_pos rfl] at H; exact H
     clear H
     have H := H1
     clear H1
     replace H := Option.bind_eq_some_iff.mp H
     obtain ⟨t141,A110,H⟩ := H
     replace H : (if t141 = true then ((spec_l01In.f a0_5 a0_2 a0_3).bind fun t142 => (if t142 = true then ((spec_l01In.f a0_1 (wrap64 (a0_0 * a0_2)) (wrap64 (a0_0 * a0_3))).bind fun t143 => (some t143)) else (some false))) else (some false)) = some r := H
     have A11 := Aside0.mk A110
     clear A110
     by_cases c12 : t141 = true
     ·subst c12
      have H1 : ((spec_l01In.f a0_5 a0_2 a0_3).bind fun t142 => (if t142 = true then ((spec_l01In.f a0_1 (wrap64 (a0_0 * a0_2)) (wrap64 (a0_0 * a0_3))).bind fun t143 => (some t143)) else (some false))) = some r := by rw [if_pos rfl] at H; exact H
      clear H
      have H := H1
      clear H1
      replace H := Option.bind_eq_some_iff.mp H
      obtain ⟨t142,A130,H⟩ := H
      replace H : (if t142 = true then ((spec_l01In.f a0_1 (wrap64 (a0_0 * a0_2)) (wrap64 (a0_0 * a0_3))).bind fun t143 => (some t143)) else (some false)) = some r := H
      have A13 := Aside0.mk A130
      clear A130
      by_cases c14 : t142 = true
      ·subst c14
       have H1 : ((spec_l01In.f a0_1 (wrap64 (a0_0 * a0_2)) (wrap64 (a0_0 * a0_3))).bind fun t143 => (some t143)) = some r := by rw [if_pos rfl] at H; exact H
       clear H
       have H := H1
       clear H1
       replace H := Option.bind_eq_some_iff.mp H
       obtain ⟨t143,A150,H⟩ := H
       replace H : (some t143) = some r := H
       have A15 := Aside0.mk A150
       clear A150
       obtain rfl := Option.some.inj H
       go_enter Tryd.func101,Tryd.ntmps101
       go_wp2_with (first | ((with_reducible refine gate_dst (N:=1) rfl ?_); refine box_event ?hg (N:=1) ?hd (cs := #[.int .i64 a0_0,.int .i64 a0_1,.int .i64 a0_2,.int .i64 a0_3,.int .i64 a0_4,.int .i64 a0_5]) (t:=38) ?hr ?_; (case hd => rfl); (case hg => rfl); (case hr => first | (go_simp; done) | (go_simp; rfl)); intro gb137 hg w16 hbox hb; have n0_ := Aside0.mk (below_step (by repeat (first | (with_reducible first | exact HB.out | apply below_alloc | apply pw_below_drewN | apply below_drew1) | exact HB.out)) hb); have n1_ := Aside0.mk (hbox); have n2_ := Aside0.mk ((by rw [hg]; exact (below_size (by repeat (first | (with_reducible first | exact HB.out | apply below_alloc | apply pw_below_drewN | apply below_drew1) | exact HB.out))) : w.heap.size ≤ gb137)); have n3_ := Aside0.mk ((by rw [hg]; exact (below_size (by repeat (first | (with_reducible first | exact HB.out | apply below_alloc | apply pw_below_drewN | apply below_drew1) | exact HB.out))) : w.heap.size ≤ gb137)); clear HB; have HB := n0_; have BK137 := n1_; have GW137 := n2_; have GE137 := n3_; clear n0_ n1_ n2_ n3_; clear hb hbox hg; have hcz17_0 : w16.cell? ⟨gb137,0,none⟩ = some (.int .i64 a0_0) := (blk_cell BK137.out 0).trans rfl; have hcz17_1 : w16.cell? ⟨gb137,1,none⟩ = some (.int .i64 a0_1) := (blk_cell BK137.out 1).trans rfl; have hcz17_2 : w16.cell? ⟨gb137,2,none⟩ = some (.int .i64 a0_2) := (blk_cell BK137.out 2).trans rfl; have hcz17_3 : w16.cell? ⟨gb137,3,none⟩ = some (.int .i64 a0_3) := (blk_cell BK137.out 3).trans rfl; have hcz17_4 : w16.cell? ⟨gb137,4,none⟩ = some (.int .i64 a0_4) := (blk_cell BK137.out 4).trans rfl; have hcz17_5 : w16.cell? ⟨gb137,5,none⟩ = some (.int .i64 a0_5) := (blk_cell BK137.out 5).trans rfl; have hfz17_0 := blk_frozen BK137.out 0; have hfz17_1 := blk_frozen BK137.out 1; have hfz17_2 := blk_frozen BK137.out 2; have hfz17_3 := blk_frozen BK137.out 3; have hfz17_4 := blk_frozen BK137.out 4; have hfz17_5 := blk_frozen BK137.out 5) | ((with_reducible refine gate_callee (f:=46) rfl ?_); refine goesL_ (some 11) rfl rfl Tryd.func46 (by kernel_rfl) rfl #[.int .i64 a0_0,.int .i64 1,.int .i64 100000] rfl (by (try simp only [List.map_toArray,List.map_cons,List.map_nil]); first | done | rfl | (simp only [List.length_drop,List.length_take]; rfl)) ?_; (with_reducible refine (spec_l01In.calls a0_0 1 100000 true _ A5.out).mono ?_); rintro e w' ⟨rfl,⟨nd,rfl⟩⟩; refine ⟨_,rfl,?_⟩) | (go_at_call 121; (with_reducible refine (spec_l02Value.calls a0_2 true _ A7.out).mono ?_); rintro e w' ⟨rfl,⟨nd,rfl⟩⟩) | (go_at_call 121; (with_reducible refine (spec_l02Value.calls a0_3 true _ A9.out).mono ?_); rintro e w' ⟨rfl,⟨nd,rfl⟩⟩) | (go_at_call 46; (with_reducible refine (spec_l01In.calls a0_4 a0_2 a0_3 true _ A11.out).mono ?_); rintro e w' ⟨rfl,⟨nd,rfl⟩⟩) | (go_at_call 46; (with_reducible refine (spec_l01In.calls a0_5 a0_2 a0_3 true _ A13.out).mono ?_); rintro e w' ⟨rfl,⟨nd,rfl⟩⟩) | (go_at_call 46; (with_reducible refine (spec_l01In.calls a0_1 (wrap64 (a0_0 * a0_2)) (wrap64 (a0_0 * a0_3)) t143 _ A15.out).mono ?_); rintro e w' ⟨rfl,⟨nd,rfl⟩⟩))
       go_ret
       exact ⟨by first | rfl | (simp only [i64_w,i32_w] <;> rfl) | (simp [errW_none,errW_some] <;> rfl) | (simp [*,errW_none,errW_some] <;> rfl),by repeat (first | (with_reducible first | exact HB.out | apply below_alloc | apply pw_below_drewN | apply below_drew1 | refine below_set ?_ GE137.out) | exact HB.out)⟩
      ·replace c14 := Bool.eq_false_iff.mpr c14
       subst c14
       have H1 : (some false) = some r := by rw [if_neg (show ¬ (false = true) by decide)] at H; exact H
       clear H
       have H := H1
       clear H1
       obtain rfl := Option.some.inj H
       go_enter Tryd.func101,Tryd.ntmps101
       go_wp2_with (first | ((with_reducible refine gate_dst (N:=1) rfl ?_); refine box_event ?hg (N:=1) ?hd (cs := #[.int .i64 a0_0,.int .i64 a0_1,.int .i64 a0_2,.int .i64 a0_3,.int .i64 a0_4,.int .i64 a0_5]) (t:=38) ?hr ?_; (case hd => rfl); (case hg => rfl); (case hr => first | (go_simp; done) | (go_simp; rfl)); intro gb137 hg w18 hbox hb; have n0_ := Aside0.mk (below_step (by repeat (first | (with_reducible first | exact HB.out | apply below_alloc | apply pw_below_drewN | apply below_drew1) | exact HB.out)) hb); have n1_ := Aside0.mk (hbox); have n2_ := Aside0.mk ((by rw [hg]; exact (below_size (by repeat (first | (with_reducible first | exact HB.out | apply below_alloc | apply pw_below_drewN | apply below_drew1) | exact HB.out))) : w.heap.size ≤ gb137)); have n3_ := Aside0.mk ((by rw [hg]; exact (below_size (by repeat (first | (with_reducible first | exact HB.out | apply below_alloc | apply pw_below_drewN | apply below_drew1) | exact HB.out))) : w.heap.size ≤ gb137)); clear HB; have HB := n0_; have BK137 := n1_; have GW137 := n2_; have GE137 := n3_; clear n0_ n1_ n2_ n3_; clear hb hbox hg; have hcz19_0 : w18.cell? ⟨gb137,0,none⟩ = some (.int .i64 a0_0) := (blk_cell BK137.out 0).trans rfl; have hcz19_1 : w18.cell? ⟨gb137,1,none⟩ = some (.int .i64 a0_1) := (blk_cell BK137.out 1).trans rfl; have hcz19_2 : w18.cell? ⟨gb137,2,none⟩ = some (.int .i64 a0_2) := (blk_cell BK137.out 2).trans rfl; have hcz19_3 : w18.cell? ⟨gb137,3,none⟩ = some (.int .i64 a0_3) := (blk_cell BK137.out 3).trans rfl; have hcz19_4 : w18.cell? ⟨gb137,4,none⟩ = some (.int .i64 a0_4) := (blk_cell BK137.out 4).trans rfl; have hcz19_5 : w18.cell? ⟨gb137,5,none⟩ = some (.int .i64 a0_5) := (blk_cell BK137.out 5).trans rfl; have hfz19_0 := blk_frozen BK137.out 0; have hfz19_1 := blk_frozen BK137.out 1; have hfz19_2 := blk_frozen BK137.out 2; have hfz19_3 := blk_frozen BK137.out 3; have hfz19_4 := blk_frozen BK137.out 4; have hfz19_5 := blk_frozen BK137.out 5) | ((with_reducible refine gate_callee (f:=46) rfl ?_); refine goesL_ (some 11) rfl rfl Tryd.func46 (by kernel_rfl) rfl #[.int .i64 a0_0,.int .i64 1,.int .i64 100000] rfl (by (try simp only [List.map_toArray,List.map_cons,List.map_nil]); first | done | rfl | (simp only [List.length_drop,List.length_take]; rfl)) ?_; (with_reducible refine (spec_l01In.calls a0_0 1 100000 true _ A5.out).mono ?_); rintro e w' ⟨rfl,⟨nd,rfl⟩⟩; refine ⟨_,rfl,?_⟩) | (go_at_call 121; (with_reducible refine (spec_l02Value.calls a0_2 true _ A7.out).mono ?_); rintro e w' ⟨rfl,⟨nd,rfl⟩⟩) | (go_at_call 121; (with_reducible refine (spec_l02Value.calls a0_3 true _ A9.out).mono ?_); rintro e w' ⟨rfl,⟨nd,rfl⟩⟩) | (go_at_call 46; (with_reducible refine (spec_l01In.calls a0_4 a0_2 a0_3 true _ A11.out).mono ?_); rintro e w' ⟨rfl,⟨nd,rfl⟩⟩) | (go_at_call 46; (with_reducible refine (spec_l01In.calls a0_5 a0_2 a0_3 false _ A13.out).mono ?_); rintro e w' ⟨rfl,⟨nd,rfl⟩⟩))
       go_ret
       exact ⟨by first | rfl | (simp only [i64_w,i32_w] <;> rfl) | (simp [errW_none,errW_some] <;> rfl) | (simp [*,errW_none,errW_some] <;> rfl),by repeat (first | (with_reducible first | exact HB.out | apply below_alloc | apply pw_below_drewN | apply below_drew1 | refine below_set ?_ GE137.out) | exact HB.out)⟩
     ·replace c12 := Bool.eq_false_iff.mpr c12
      subst c12
      have H1 : (some false) = some r := by rw [if_neg (show ¬ (false = true) by decide)] at H; exact H
      clear H
      have H := H1
      clear H1
      obtain rfl := Option.some.inj H
      go_enter Tryd.func101,Tryd.ntmps101
      go_wp2_with (first | ((with_reducible refine gate_dst (N:=1) rfl ?_); refine box_event ?hg (N:=1) ?hd (cs := #[.int .i64 a0_0,.int .i64 a0_1,.int .i64 a0_2,.int .i64 a0_3,.int .i64 a0_4,.int .i64 a0_5]) (t:=38) ?hr ?_; (case hd => rfl); (case hg => rfl); (case hr => first | (go_simp; done) | (go_simp; rfl)); intro gb137 hg w20 hbox hb; have n0_ := Aside0.mk (below_step (by repeat (first | (with_reducible first | exact HB.out | apply below_alloc | apply pw_below_drewN | apply below_drew1) | exact HB.out)) hb); have n1_ := Aside0.mk (hbox); have n2_ := Aside0.mk ((by rw [hg]; exact (below_size (by repeat (first | (with_reducible first | exact HB.out | apply below_alloc | apply pw_below_drewN | apply below_drew1) | exact HB.out))) : w.heap.size ≤ gb137)); have n3_ := Aside0.mk ((by rw [hg]; exact (below_size (by repeat (first | (with_reducible first | exact HB.out | apply below_alloc | apply pw_below_drewN | apply below_drew1) | exact HB.out))) : w.heap.size ≤ gb137)); clear HB; have HB := n0_; have BK137 := n1_; have GW137 := n2_; have GE137 := n3_; clear n0_ n1_ n2_ n3_; clear hb hbox hg; have hcz21_0 : w20.cell? ⟨gb137,0,none⟩ = some (.int .i64 a0_0) := (blk_cell BK137.out 0).trans rfl; have hcz21_1 : w20.cell? ⟨gb137,1,none⟩ = some (.int .i64 a0_1) := (blk_cell BK137.out 1).trans rfl; have hcz21_2 : w20.cell? ⟨gb137,2,none⟩ = some (.int .i64 a0_2) := (blk_cell BK137.out 2).trans rfl; have hcz21_3 : w20.cell? ⟨gb137,3,none⟩ = some (.int .i64 a0_3) := (blk_cell BK137.out 3).trans rfl; have hcz21_4 : w20.cell? ⟨gb137,4,none⟩ = some (.int .i64 a0_4) := (blk_cell BK137.out 4).trans rfl; have hcz21_5 : w20.cell? ⟨gb137,5,none⟩ = some (.int .i64 a0_5) := (blk_cell BK137.out 5).trans rfl; have hfz21_0 := blk_frozen BK137.out 0; have hfz21_1 := blk_frozen BK137.out 1; have hfz21_2 := blk_frozen BK137.out 2; have hfz21_3 := blk_frozen BK137.out 3; have hfz21_4 := blk_frozen BK137.out 4; have hfz21_5 := blk_frozen BK137.out 5) | ((with_reducible refine gate_callee (f:=46) rfl ?_); refine goesL_ (some 11) rfl rfl Tryd.func46 (by kernel_rfl) rfl #[.int .i64 a0_0,.int .i64 1,.int .i64 100000] rfl (by (try simp only [List.map_toArray,List.map_cons,List.map_nil]); first | done | rfl | (simp only [List.length_drop,List.length_take]; rfl)) ?_; (with_reducible refine (spec_l01In.calls a0_0 1 100000 true _ A5.out).mono ?_); rintro e w' ⟨rfl,⟨nd,rfl⟩⟩; refine ⟨_,rfl,?_⟩) | (go_at_call 121; (with_reducible refine (spec_l02Value.calls a0_2 true _ A7.out).mono ?_); rintro e w' ⟨rfl,⟨nd,rfl⟩⟩) | (go_at_call 121; (with_reducible refine (spec_l02Value.calls a0_3 true _ A9.out).mono ?_); rintro e w' ⟨rfl,⟨nd,rfl⟩⟩) | (go_at_call 46; (with_reducible refine (spec_l01In.calls a0_4 a0_2 a0_3 false _ A11.out).mono ?_); rintro e w' ⟨rfl,⟨nd,rfl⟩⟩))
      go_ret
      exact ⟨by first | rfl | (simp only [i64_w,i32_w] <;> rfl) | (simp [errW_none,errW_some] <;> rfl) | (simp [*,errW_none,errW_some] <;> rfl),by repeat (first | (with_reducible first | exact HB.out | apply below_alloc | apply pw_below_drewN | apply below_drew1 | refine below_set ?_ GE137.out) | exact HB.out)⟩
    ·replace c10 := Bool.eq_false_iff.mpr c10
     subst c10
     have H1 : (some false) = some r := by rw [if_neg (show ¬ (false = true) by decide)] at H; exact H
     clear H
     have H := H1
     clear H1
     obtain rfl := Option.some.inj H
     go_enter Tryd.func101,Tryd.ntmps101
     go_wp2_with (first | ((with_reducible refine gate_dst (N:=1) rfl ?_); refine box_event ?hg (N:=1) ?hd (cs := #[.int .i64 a0_0,.int .i64 a0_1,.int .i64 a0_2,.int .i64 a0_3,.int .i64 a0_4,.int .i64 a0_5]) (t:=38) ?hr ?_; (case hd => rfl); (case hg => rfl); (case hr => first | (go_simp; done) | (go_simp; rfl)); intro gb137 hg w22 hbox hb; have n0_ := Aside0.mk (below_step (by repeat (first | (with_reducible first | exact HB.out | apply below_alloc | apply pw_below_drewN | apply below_drew1) | exact HB.out)) hb); have n1_ := Aside0.mk (hbox); have n2_ := Aside0.mk ((by rw [hg]; exact (below_size (by repeat (first | (with_reducible first | exact HB.out | apply below_alloc | apply pw_below_drewN | apply below_drew1) | exact HB.out))) : w.heap.size ≤ gb137)); have n3_ := Aside0.mk ((by rw [hg]; exact (below_size (by repeat (first | (with_reducible first | exact HB.out | apply below_alloc | apply pw_below_drewN | apply below_drew1) | exact HB.out))) : w.heap.size ≤ gb137)); clear HB; have HB := n0_; have BK137 := n1_; have GW137 := n2_; have GE137 := n3_; clear n0_ n1_ n2_ n3_; clear hb hbox hg; have hcz23_0 : w22.cell? ⟨gb137,0,none⟩ = some (.int .i64 a0_0) := (blk_cell BK137.out 0).trans rfl; have hcz23_1 : w22.cell? ⟨gb137,1,none⟩ = some (.int .i64 a0_1) := (blk_cell BK137.out 1).trans rfl; have hcz23_2 : w22.cell? ⟨gb137,2,none⟩ = some (.int .i64 a0_2) := (blk_cell BK137.out 2).trans rfl; have hcz23_3 : w22.cell? ⟨gb137,3,none⟩ = some (.int .i64 a0_3) := (blk_cell BK137.out 3).trans rfl; have hcz23_4 : w22.cell? ⟨gb137,4,none⟩ = some (.int .i64 a0_4) := (blk_cell BK137.out 4).trans rfl; have hcz23_5 : w22.cell? ⟨gb137,5,none⟩ = some (.int .i64 a0_5) := (blk_cell BK137.out 5).trans rfl; have hfz23_0 := blk_frozen BK137.out 0; have hfz23_1 := blk_frozen BK137.out 1; have hfz23_2 := blk_frozen BK137.out 2; have hfz23_3 := blk_frozen BK137.out 3; have hfz23_4 := blk_frozen BK137.out 4; have hfz23_5 := blk_frozen BK137.out 5) | ((with_reducible refine gate_callee (f:=46) rfl ?_); refine goesL_ (some 11) rfl rfl Tryd.func46 (by kernel_rfl) rfl #[.int .i64 a0_0,.int .i64 1,.int .i64 100000] rfl (by (try simp only [List.map_toArray,List.map_cons,List.map_nil]); first | done | rfl | (simp only [List.length_drop,List.length_take]; rfl)) ?_; (with_reducible refine (spec_l01In.calls a0_0 1 100000 true _ A5.out).mono ?_); rintro e w' ⟨rfl,⟨nd,rfl⟩⟩; refine ⟨_,rfl,?_⟩) | (go_at_call 121; (with_reducible refine (spec_l02Value.calls a0_2 true _ A7.out).mono ?_); rintro e w' ⟨rfl,⟨nd,rfl⟩⟩) | (go_at_call 121; (with_reducible refine (spec_l02Value.calls a0_3 false _ A9.out).mono ?_); rintro e w' ⟨rfl,⟨nd,rfl⟩⟩))
     go_ret
     exact ⟨by first | rfl | (simp only [i64_w,i32_w] <;> rfl) | (simp [errW_none,errW_some] <;> rfl) | (simp [*,errW_none,errW_some] <;> rfl),by repeat (first | (with_reducible first | exact HB.out | apply below_alloc | apply pw_below_drewN | apply below_drew1 | refine below_set ?_ GE137.out) | exact HB.out)⟩
   ·replace c8 := Bool.eq_false_iff.mpr c8
    subst c8
    have H1 : (some false) = some r := by rw [if_neg (show ¬ (false = true) by decide)] at H; exact H
    clear H
    have H := H1
    clear H1
    obtain rfl := Option.some.inj H
    go_enter Tryd.func101,Tryd.ntmps101
    go_wp2_with (first | ((with_reducible refine gate_dst (N:=1) rfl ?_); refine box_event ?hg (N:=1) ?hd (cs := #[.int .i64 a0_0,.int .i64 a0_1,.int .i64 a0_2,.int .i64 a0_3,.int .i64 a0_4,.int .i64 a0_5]) (t:=38) ?hr ?_; (case hd => rfl); (case hg => rfl); (case hr => first | (go_simp; done) | (go_simp; rfl)); intro gb137 hg w24 hbox hb; have n0_ := Aside0.mk (below_step (by repeat (first | (with_reducible first | exact HB.out | apply below_alloc | apply pw_below_drewN | apply below_drew1) | exact HB.out)) hb); have n1_ := Aside0.mk (hbox); have n2_ := Aside0.mk ((by rw [hg]; exact (below_size (by repeat (first | (with_reducible first | exact HB.out | apply below_alloc | apply pw_below_drewN | apply below_drew1) | exact HB.out))) : w.heap.size ≤ gb137)); have n3_ := Aside0.mk ((by rw [hg]; exact (below_size (by repeat (first | (with_reducible first | exact HB.out | apply below_alloc | apply pw_below_drewN | apply below_drew1) | exact HB.out))) : w.heap.size ≤ gb137)); clear HB; have HB := n0_; have BK137 := n1_; have GW137 := n2_; have GE137 := n3_; clear n0_ n1_ n2_ n3_; clear hb hbox hg; have hcz25_0 : w24.cell? ⟨gb137,0,none⟩ = some (.int .i64 a0_0) := (blk_cell BK137.out 0).trans rfl; have hcz25_1 : w24.cell? ⟨gb137,1,none⟩ = some (.int .i64 a0_1) := (blk_cell BK137.out 1).trans rfl; have hcz25_2 : w24.cell? ⟨gb137,2,none⟩ = some (.int .i64 a0_2) := (blk_cell BK137.out 2).trans rfl; have hcz25_3 : w24.cell? ⟨gb137,3,none⟩ = some (.int .i64 a0_3) := (blk_cell BK137.out 3).trans rfl; have hcz25_4 : w24.cell? ⟨gb137,4,none⟩ = some (.int .i64 a0_4) := (blk_cell BK137.out 4).trans rfl; have hcz25_5 : w24.cell? ⟨gb137,5,none⟩ = some (.int .i64 a0_5) := (blk_cell BK137.out 5).trans rfl; have hfz25_0 := blk_frozen BK137.out 0; have hfz25_1 := blk_frozen BK137.out 1; have hfz25_2 := blk_frozen BK137.out 2; have hfz25_3 := blk_frozen BK137.out 3; have hfz25_4 := blk_frozen BK137.out 4; have hfz25_5 := blk_frozen BK137.out 5) | ((with_reducible refine gate_callee (f:=46) rfl ?_); refine goesL_ (some 11) rfl rfl Tryd.func46 (by kernel_rfl) rfl #[.int .i64 a0_0,.int .i64 1,.int .i64 100000] rfl (by (try simp only [List.map_toArray,List.map_cons,List.map_nil]); first | done | rfl | (simp only [List.length_drop,List.length_take]; rfl)) ?_; (with_reducible refine (spec_l01In.calls a0_0 1 100000 true _ A5.out).mono ?_); rintro e w' ⟨rfl,⟨nd,rfl⟩⟩; refine ⟨_,rfl,?_⟩) | (go_at_call 121; (with_reducible refine (spec_l02Value.calls a0_2 false _ A7.out).mono ?_); rintro e w' ⟨rfl,⟨nd,rfl⟩⟩))
    go_ret
    exact ⟨by first | rfl | (simp only [i64_w,i32_w] <;> rfl) | (simp [errW_none,errW_some] <;> rfl) | (simp [*,errW_none,errW_some] <;> rfl),by repeat (first | (with_reducible first | exact HB.out | apply below_alloc | apply pw_below_drewN | apply below_drew1 | refine below_set ?_ GE137.out) | exact HB.out)⟩
  ·replace c6 := Bool.eq_false_iff.mpr c6
   subst c6
   have H1 : (some false) = some r := by rw [if_neg (show ¬ (false = true) by decide)] at H; exact H
   clear H
   have H := H1
   clear H1
   obtain rfl := Option.some.inj H
   go_enter Tryd.func101,Tryd.ntmps101
   go_wp2_with (first | ((with_reducible refine gate_dst (N:=1) rfl ?_); refine box_event ?hg (N:=1) ?hd (cs := #[.int .i64 a0_0,.int .i64 a0_1,.int .i64 a0_2,.int .i64 a0_3,.int .i64 a0_4,.int .i64 a0_5]) (t:=38) ?hr ?_; (case hd => rfl); (case hg => rfl); (case hr => first | (go_simp; done) | (go_simp; rfl)); intro gb137 hg w26 hbox hb; have n0_ := Aside0.mk (below_step (by repeat (first | (with_reducible first | exact HB.out | apply below_alloc | apply pw_below_drewN | apply below_drew1) | exact HB.out)) hb); have n1_ := Aside0.mk (hbox); have n2_ := Aside0.mk ((by rw [hg]; exact (below_size (by repeat (first | (with_reducible first | exact HB.out | apply below_alloc | apply pw_below_drewN | apply below_drew1) | exact HB.out))) : w.heap.size ≤ gb137)); have n3_ := Aside0.mk ((by rw [hg]; exact (below_size (by repeat (first | (with_reducible first | exact HB.out | apply below_alloc | apply pw_below_drewN | apply below_drew1) | exact HB.out))) : w.heap.size ≤ gb137)); clear HB; have HB := n0_; have BK137 := n1_; have GW137 := n2_; have GE137 := n3_; clear n0_ n1_ n2_ n3_; clear hb hbox hg; have hcz27_0 : w26.cell? ⟨gb137,0,none⟩ = some (.int .i64 a0_0) := (blk_cell BK137.out 0).trans rfl; have hcz27_1 : w26.cell? ⟨gb137,1,none⟩ = some (.int .i64 a0_1) := (blk_cell BK137.out 1).trans rfl; have hcz27_2 : w26.cell? ⟨gb137,2,none⟩ = some (.int .i64 a0_2) := (blk_cell BK137.out 2).trans rfl; have hcz27_3 : w26.cell? ⟨gb137,3,none⟩ = some (.int .i64 a0_3) := (blk_cell BK137.out 3).trans rfl; have hcz27_4 : w26.cell? ⟨gb137,4,none⟩ = some (.int .i64 a0_4) := (blk_cell BK137.out 4).trans rfl; have hcz27_5 : w26.cell? ⟨gb137,5,none⟩ = some (.int .i64 a0_5) := (blk_cell BK137.out 5).trans rfl; have hfz27_0 := blk_frozen BK137.out 0; have hfz27_1 := blk_frozen BK137.out 1; have hfz27_2 := blk_frozen BK137.out 2; have hfz27_3 := blk_frozen BK137.out 3; have hfz27_4 := blk_frozen BK137.out 4; have hfz27_5 := blk_frozen BK137.out 5) | ((with_reducible refine gate_callee (f:=46) rfl ?_); refine goesL_ (some 11) rfl rfl Tryd.func46 (by kernel_rfl) rfl #[.int .i64 a0_0,.int .i64 1,.int .i64 100000] rfl (by (try simp only [List.map_toArray,List.map_cons,List.map_nil]); first | done | rfl | (simp only [List.length_drop,List.length_take]; rfl)) ?_; (with_reducible refine (spec_l01In.calls a0_0 1 100000 false _ A5.out).mono ?_); rintro e w' ⟨rfl,⟨nd,rfl⟩⟩; refine ⟨_,rfl,?_⟩))
   go_ret
   exact ⟨by first | rfl | (simp only [i64_w,i32_w] <;> rfl) | (simp [errW_none,errW_some] <;> rfl) | (simp [*,errW_none,errW_some] <;> rfl),by repeat (first | (with_reducible first | exact HB.out | apply below_alloc | apply pw_below_drewN | apply below_drew1 | refine below_set ?_ GE137.out) | exact HB.out)⟩

/-! ### spec_l02Read: function 66 -/
def spec_l02Read.f (k : Nat) (a0 : ByteArray) : Option (Int × Int × Int × Int × Int × Int × Bool) := (spec_l02Numbers.f k a0 44 6).bind fun bt145 => (if bt145.2 = true then (if 0 < (bt145.1.length : Int) then (if 1 < (bt145.1.length : Int) then (if 2 < (bt145.1.length : Int) then (if 3 < (bt145.1.length : Int) then (if 4 < (bt145.1.length : Int) then (if 5 < (bt145.1.length : Int) then ((spec_AggOK.f (rd bt145.1 0) (rd bt145.1 1) (rd bt145.1 2) (rd bt145.1 3) (rd bt145.1 4) (rd bt145.1 5)).bind fun t156 => (if t156 = true then (some (rd bt145.1 0,rd bt145.1 1,rd bt145.1 2,rd bt145.1 3,rd bt145.1 4,rd bt145.1 5,true)) else (some (0,0,0,0,0,0,false)))) else (none)) else (none)) else (none)) else (none)) else (none)) else (none)) else (some (0,0,0,0,0,0,false)))
theorem spec_l02Read.mono : ∀ a0 k,LeO (spec_l02Read.f k a0) (spec_l02Read.f (k + 1) a0) := by
 intro a0 k
 unfold spec_l02Read.f
 repeat' first
   | (with_reducible exact spec_l02Numbers.mono _ _ _ _)
   | (with_reducible exact LeO.refl _)
   | (with_reducible exact LeO.none _)
   | (with_reducible refine LeO.ite ?_ ?_)
   | (with_reducible refine LeO.bind ?_ (fun _ => ?_))
   | exact spec_l02Numbers.mono _ _ _ _
   | exact LeO.none _
   | refine LeO.ite ?_ ?_
   | refine LeO.bind ?_ (fun _ => ?_)
def spec_l02Read.T4 : Bool × List (List Nat × List Nat) := (true,[([],[]),([0],[0]),([1],[1]),([],[]),([3],[3]),([4],[4]),([],[]),([6],[6]),([7],[7]),([],[]),([9],[9]),([10],[10]),([],[]),([12],[12]),([13],[13]),([],[]),([15],[15]),([16],[16]),([2,5,8,11,14,17],[2,5,8,11,14,17]),([],[]),([19,18,0,1,2,3,4,5,6,7,8,9,10,11,12,13,14,15,16,17,18,19],[18,19])])
def spec_l02Read.B4 : List Nat := [0,1,3,0,8,24,0,64,192,0,512,1536,0,4096,12288,0,32768,98304,262143,0,1048575]
theorem spec_l02Read.tab4 : rtab .any (opsOf Tryd.f66 4) = spec_l02Read.T4 := by kernel_rfl
theorem spec_l02Read.bits4 : waitsOk spec_l02Read.T4.2 spec_l02Read.B4 = true := by kernel_rfl
set_option maxHeartbeats 8000000 in
set_option maxRecDepth 100000 in
theorem spec_l02Read.calls (k : Nat) (a0 : ByteArray) (r1 : Int) (r2 : Int) (r3 : Int) (r4 : Int) (r5 : Int) (r6 : Int) (r7 : Bool) (w : World) (h : spec_l02Read.f k a0 = some (r1,r2,r3,r4,r5,r6,r7)) :
  Calls Tryd.prog 66 #[.string a0] w fun e w' => e = .returned (.tuple #[.agg #[.int .i64 r1,.int .i64 r2,.int .i64 r3,.int .i64 r4,.int .i64 r5,.int .i64 r6],.bool r7]) ∧ Below w.heap.size w w' := by
 have hu38 := Tryd.underlying38
 have HB := Aside0.mk (Below.refl w.heap.size w)
 have H : ((spec_l02Numbers.f k a0 44 6).bind fun bt145 => (if bt145.2 = true then (if 0 < (bt145.1.length : Int) then (if 1 < (bt145.1.length : Int) then (if 2 < (bt145.1.length : Int) then (if 3 < (bt145.1.length : Int) then (if 4 < (bt145.1.length : Int) then (if 5 < (bt145.1.length : Int) then ((spec_AggOK.f (rd bt145.1 0) (rd bt145.1 1) (rd bt145.1 2) (rd bt145.1 3) (rd bt145.1 4) (rd bt145.1 5)).bind fun t156 => (if t156 = true then (some (rd bt145.1 0,rd bt145.1 1,rd bt145.1 2,rd bt145.1 3,rd bt145.1 4,rd bt145.1 5,true)) else (some (0,0,0,0,0,0,false)))) else (none)) else (none)) else (none)) else (none)) else (none)) else (none)) else (some (0,0,0,0,0,0,false)))) = some (r1,r2,r3,r4,r5,r6,r7) := h
 clear h
 replace H := Option.bind_eq_some_iff.mp H
 obtain ⟨⟨t145,t146⟩,A20,H⟩ := H
 replace H : (if t146 = true then (if 0 < (t145.length : Int) then (if 1 < (t145.length : Int) then (if 2 < (t145.length : Int) then (if 3 < (t145.length : Int) then (if 4 < (t145.length : Int) then (if 5 < (t145.length : Int) then ((spec_AggOK.f (rd t145 0) (rd t145 1) (rd t145 2) (rd t145 3) (rd t145 4) (rd t145 5)).bind fun t156 => (if t156 = true then (some (rd t145 0,rd t145 1,rd t145 2,rd t145 3,rd t145 4,rd t145 5,true)) else (some (0,0,0,0,0,0,false)))) else (none)) else (none)) else (none)) else (none)) else (none)) else (none)) else (some (0,0,0,0,0,0,false))) = some (r1,r2,r3,r4,r5,r6,r7) := H
 have A2 := Aside0.mk A20
 clear A20
 by_cases c3 : t146 = true
 ·subst c3
  have H1 : (if 0 < (t145.length : Int) then (if 1 < (t145.length : Int) then (if 2 < (t145.length : Int) then (if 3 < (t145.length : Int) then (if 4 < (t145.length : Int) then (if 5 < (t145.length : Int) then ((spec_AggOK.f (rd t145 0) (rd t145 1) (rd t145 2) (rd t145 3) (rd t145 4) (rd t145 5)).bind fun t156 => (if t156 = true then (some (rd t145 0,rd t145 1,rd t145 2,rd t145 3,rd t145 4,rd t145 5,true)) else (some (0,0,0,0,0,0,false)))) else (none)) else (none)) else (none)) else (none)) else (none)) else (none)) = some (r1,r2,r3,r4,r5,r6,r7) := by rw [if_pos rfl] at H; exact H
  clear H
  have H := H1
  clear H1
  by_cases c4 : 0 < (t145.length : Int)
  ·rw [if_pos c4] at H
   have c4b0 : decide (0 < (t145.length : Int)) = true := decide_eq_true c4
   have c4b1 : decide (0 < t145.length) = true := decide_eq_true (by omega)
   clear c4
   by_cases c5 : 1 < (t145.length : Int)
   ·rw [if_pos c5] at H
    have c5b0 : decide (1 < (t145.length : Int)) = true := decide_eq_true c5
    have c5b1 : decide (1 < t145.length) = true := decide_eq_true (by omega)
    clear c5
    by_cases c6 : 2 < (t145.length : Int)
    ·rw [if_pos c6] at H
     have c6b0 : decide (2 < (t145.length : Int)) = true := decide_eq_true c6
     have c6b1 : decide (2 < t145.length) = true := decide_eq_true (by omega)
     clear c6
     by_cases c7 : 3 < (t145.length : Int)
     ·rw [if_pos c7] at H
      have c7b0 : decide (3 < (t145.length : Int)) = true := decide_eq_true c7
      have c7b1 : decide (3 < t145.length) = true := decide_eq_true (by omega)
      clear c7
      by_cases c8 : 4 < (t145.length : Int)
      ·rw [if_pos c8] at H
       have c8b0 : decide (4 < (t145.length : Int)) = true := decide_eq_true c8
       have c8b1 : decide (4 < t145.length) = true := decide_eq_true (by omega)
       clear c8
       by_cases c9 : 5 < (t145.length : Int)
       ·rw [if_pos c9] at H
        have c9b0 : decide (5 < (t145.length : Int)) = true := decide_eq_true c9
        have c9b1 : decide (5 < t145.length) = true := decide_eq_true (by omega)
        clear c9
        replace H := Option.bind_eq_some_iff.mp H
        obtain ⟨t156,A100,H⟩ := H
        replace H : (if t156 = true then (some (rd t145 0,rd t145 1,rd t145 2,rd t145 3,rd t145 4,rd t145 5,true)) else (some (0,0,0,0,0,0,false))) = some (r1,r2,r3,r4,r5,r6,r7) := H
        have A10 := Aside0.mk A100
        clear A100
        by_cases c11 : t156 = true
        ·subst c11
         have H1 : (some (rd t145 0,rd t145 1,rd t145 2,rd t145 3,rd t145 4,rd t145 5,true)) = some (r1,r2,r3,r4,r5,r6,r7) := by rw [if_pos rfl] at H; exact H
         clear H
         have H := H1
         clear H1
         simp only [Option.some.injEq,Prod.mk.injEq] at H
         obtain ⟨rfl,rfl,rfl,rfl,rfl,rfl,rfl⟩ := H
         go_enter Tryd.func66,Tryd.ntmps66
         try go_wp2_with (first | ((with_reducible refine gate_dst (N:=2) rfl ?_); refine box_event ?hg (N:=2) ?hd (cs := #[.int .i64 0,.int .i64 0,.int .i64 0,.int .i64 0,.int .i64 0,.int .i64 0]) (t:=38) ?hr ?_; (case hd => rfl); (case hg => rfl); (case hr => first | (go_simp; done) | (go_simp; rfl)); intro gb144 hg w12 hbox hb; have n0_ := Aside0.mk (below_step (by repeat (first | (with_reducible first | exact HB.out | apply below_alloc | apply pw_below_drewN | apply below_drew1) | exact HB.out)) hb); have n1_ := Aside0.mk (hbox); have n2_ := Aside0.mk ((by rw [hg]; exact (below_size (by repeat (first | (with_reducible first | exact HB.out | apply below_alloc | apply pw_below_drewN | apply below_drew1) | exact HB.out))) : w.heap.size ≤ gb144)); have n3_ := Aside0.mk ((by rw [hg]; exact (below_size (by repeat (first | (with_reducible first | exact HB.out | apply below_alloc | apply pw_below_drewN | apply below_drew1) | exact HB.out))) : w.heap.size ≤ gb144)); clear HB; have HB := n0_; have BK144 := n1_; have GW144 := n2_; have GE144 := n3_; clear n0_ n1_ n2_ n3_; clear hb hbox hg) | ((with_reducible refine gate_callee (f:=100) rfl ?_); refine goesL_ (some 9) rfl rfl Tryd.func100 (by kernel_rfl) rfl #[.string a0,.int .u8 44,.int .i64 6] rfl (by (try simp only [List.map_toArray,List.map_cons,List.map_nil]); first | done | rfl | (simp only [List.length_drop,List.length_take]; rfl)) ?_; (with_reducible refine (spec_l02Numbers.calls k a0 44 6 t145 true _ A2.out).mono ?_); rintro e w13 ⟨v147,rfl,ho0,hb⟩; refine ⟨_,rfl,?_⟩; have n0_ := Aside0.mk (Kd.R_lower ho0 (below_size (by repeat (first | (with_reducible first | exact HB.out | apply below_alloc | apply pw_below_drewN | apply below_drew1 | refine below_set ?_ GE144.out) | exact HB.out)))); have n1_ := Aside0.mk (blk_below (g:=gb144) (o:=.cells #[.int .i64 0,.int .i64 0,.int .i64 0,.int .i64 0,.int .i64 0,.int .i64 0] 38 (0,0)) (by (with_reducible repeat (first | refine blk_drewN ?_ _ | refine blk_drew ?_ | refine blk_alloc ?_ _)); exact BK144.out) hb); have n2_ := Aside0.mk (below_step (by repeat (first | (with_reducible first | exact HB.out | apply below_alloc | apply pw_below_drewN | apply below_drew1 | refine below_set ?_ GE144.out) | exact HB.out)) hb); clear BK144; clear HB; have HO148 := n0_; have BK144 := n1_; have HB := n2_; clear n0_ n1_ n2_; (try clear hb); (try clear hb2); (try clear hk); (try clear hi); (try clear ho0)))
         have n0_ := Aside0.mk (Kd.R_drew HO148.out)
         have n1_ := Aside0.mk (blk_drew BK144.out)
         have n2_ := Aside0.mk (below_drew1 HB.out)
         clear HO148
         clear BK144
         clear HB
         have HO148 := n0_
         have BK144 := n1_
         have HB := n2_
         clear n0_ n1_ n2_
         obtain ⟨Ao15,co15,eo15⟩ := Kd.R_slice HO148.out
         (first | subst eo15 | (injection eo15 with f1_ f2_ f3_; have f4_ := f1_.symm; have f5_ := f3_.symm; clear f1_ f2_ f3_; subst f4_; subst f5_))
         have p149 : 0 ≤ (0 : Int) := (by omega)
         have q149 : 0 < (t145.length : Int) := of_decide_eq_true (by first | (with_reducible assumption) | assumption)
         obtain ⟨ad149,e149,hx149_0⟩ := Kd.at_int (Kd.R_reads' HO148.out).2.2 0 p149 q149
         cases e149
         have qi149 : (0 < t145.length) = True := eq_true (by omega)
         (try rw [show ((0 : Int)).toNat = 0 from rfl] at hx149_0)
         (try rw [Addr.add_zero'] at hx149_0)
         replace p149 := eq_true p149
         replace q149 := eq_true q149
         have p150 : 0 ≤ (1 : Int) := (by omega)
         have q150 : 1 < (t145.length : Int) := of_decide_eq_true (by first | (with_reducible assumption) | assumption)
         obtain ⟨ad150,e150,hx150_0⟩ := Kd.at_int (Kd.R_reads' HO148.out).2.2 1 p150 q150
         obtain rfl : ad149 = ad150 := (by injection e150)
         (try simp only [show (1 : Int).toNat = 1 from rfl,Nat.reduceMul,Nat.reduceEqDiff,Go.Addr.add,↓reduceIte] at hx150_0)
         have qi150 : (1 < t145.length) = True := eq_true (by omega)
         (try rw [show ((1 : Int)).toNat = 1 from rfl] at hx150_0)
         replace p150 := eq_true p150
         replace q150 := eq_true q150
         have p151 : 0 ≤ (2 : Int) := (by omega)
         have q151 : 2 < (t145.length : Int) := of_decide_eq_true (by first | (with_reducible assumption) | assumption)
         obtain ⟨ad151,e151,hx151_0⟩ := Kd.at_int (Kd.R_reads' HO148.out).2.2 2 p151 q151
         obtain rfl : ad149 = ad151 := (by injection e151)
         (try simp only [show (2 : Int).toNat = 2 from rfl,Nat.reduceMul,Nat.reduceEqDiff,Go.Addr.add,↓reduceIte] at hx151_0)
         have qi151 : (2 < t145.length) = True := eq_true (by omega)
         (try rw [show ((2 : Int)).toNat = 2 from rfl] at hx151_0)
         replace p151 := eq_true p151
         replace q151 := eq_true q151
         have p152 : 0 ≤ (3 : Int) := (by omega)
         have q152 : 3 < (t145.length : Int) := of_decide_eq_true (by first | (with_reducible assumption) | assumption)
         obtain ⟨ad152,e152,hx152_0⟩ := Kd.at_int (Kd.R_reads' HO148.out).2.2 3 p152 q152
         obtain rfl : ad149 = ad152 := (by injection e152)
         (try simp only [show (3 : Int).toNat = 3 from rfl,Nat.reduceMul,Nat.reduceEqDiff,Go.Addr.add,↓reduceIte] at hx152_0)
         have qi152 : (3 < t145.length) = True := eq_true (by omega)
         (try rw [show ((3 : Int)).toNat = 3 from rfl] at hx152_0)
         replace p152 := eq_true p152
         replace q152 := eq_true q152
         have p153 : 0 ≤ (4 : Int) := (by omega)
         have q153 : 4 < (t145.length : Int) := of_decide_eq_true (by first | (with_reducible assumption) | assumption)
         obtain ⟨ad153,e153,hx153_0⟩ := Kd.at_int (Kd.R_reads' HO148.out).2.2 4 p153 q153
         obtain rfl : ad149 = ad153 := (by injection e153)
         (try simp only [show (4 : Int).toNat = 4 from rfl,Nat.reduceMul,Nat.reduceEqDiff,Go.Addr.add,↓reduceIte] at hx153_0)
         have qi153 : (4 < t145.length) = True := eq_true (by omega)
         (try rw [show ((4 : Int)).toNat = 4 from rfl] at hx153_0)
         replace p153 := eq_true p153
         replace q153 := eq_true q153
         have p154 : 0 ≤ (5 : Int) := (by omega)
         have q154 : 5 < (t145.length : Int) := of_decide_eq_true (by first | (with_reducible assumption) | assumption)
         obtain ⟨ad154,e154,hx154_0⟩ := Kd.at_int (Kd.R_reads' HO148.out).2.2 5 p154 q154
         obtain rfl : ad149 = ad154 := (by injection e154)
         (try simp only [show (5 : Int).toNat = 5 from rfl,Nat.reduceMul,Nat.reduceEqDiff,Go.Addr.add,↓reduceIte] at hx154_0)
         have qi154 : (5 < t145.length) = True := eq_true (by omega)
         (try rw [show ((5 : Int)).toNat = 5 from rfl] at hx154_0)
         replace p154 := eq_true p154
         replace q154 := eq_true q154
         refine start_ (n:=21) (S:=fun w' => w'.cell? ad149 = some (.int .i64 (rd t145 0)) ∧ w'.cell? ⟨ad149.block,ad149.off + 1,none⟩ = some (.int .i64 (rd t145 1)) ∧ w'.cell? ⟨ad149.block,ad149.off + 2,none⟩ = some (.int .i64 (rd t145 2)) ∧ w'.cell? ⟨ad149.block,ad149.off + 3,none⟩ = some (.int .i64 (rd t145 3)) ∧ w'.cell? ⟨ad149.block,ad149.off + 4,none⟩ = some (.int .i64 (rd t145 4)) ∧ w'.cell? ⟨ad149.block,ad149.off + 5,none⟩ = some (.int .i64 (rd t145 5))) (ds := []) #[F,F,F,F,F,F,F,F,F,F,F,F,F,F,F,F,F,F,F,F,F] (by kernel_rfl) rfl rfl ⟨hx149_0,hx150_0,hx151_0,hx152_0,hx153_0,hx154_0⟩ (fun hHeld => ?_); refine with_tabW spec_l02Read.tab4 spec_l02Read.bits4 (fun HT_ HW_ => ?_)
         generalize w13.drew = w14 at HO148 BK144 HB hx149_0 hx150_0 hx151_0 hx152_0 hx153_0 hx154_0 hHeld ⊢
         refine pure_ (i:=0) (N:=some 15) (v:=?_) (a':=?_) #[T,F,F,F,F,F,F,F,F,F,F,F,F,F,F,F,F,F,F,F,F] rfl rfl (any_of HT_.out (by kernel_rfl)) (fun _ _ _ h => h) (Or.inl ⟨by rfl,?_⟩) ?_ ?_
         rotate_left
         ·intro w'
          go_simp
          with_reducible rfl
         rotate_left
         ·simp only [Act.put,setIfInBounds_toArray,set_cons_zero,set_cons_succ,i64_w,i32_w]
          rfl
         refine pure_ (i:=1) (N:=some 16) (v:=?_) (a':=?_) #[T,T,F,F,F,F,F,F,F,F,F,F,F,F,F,F,F,F,F,F,F] rfl rfl (any_of HT_.out (by kernel_rfl)) (fun _ _ _ h => h) (Or.inl ⟨by rfl,?_⟩) ?_ ?_
         rotate_left
         ·intro w'
          go_simp
          with_reducible rfl
         rotate_left
         ·simp only [Act.put,setIfInBounds_toArray,set_cons_zero,set_cons_succ,i64_w,i32_w]
          rfl
         refine pure_ (i:=3) (N:=some 18) (v:=?_) (a':=?_) #[T,T,F,T,F,F,F,F,F,F,F,F,F,F,F,F,F,F,F,F,F] rfl rfl (any_of HT_.out (by kernel_rfl)) (fun _ _ _ h => h) (Or.inl ⟨by rfl,?_⟩) ?_ ?_
         rotate_left
         ·intro w'
          go_simp
          with_reducible rfl
         rotate_left
         ·simp only [Act.put,setIfInBounds_toArray,set_cons_zero,set_cons_succ,i64_w,i32_w]
          rfl
         refine pure_ (i:=4) (N:=some 19) (v:=?_) (a':=?_) #[T,T,F,T,T,F,F,F,F,F,F,F,F,F,F,F,F,F,F,F,F] rfl rfl (any_of HT_.out (by kernel_rfl)) (fun _ _ _ h => h) (Or.inl ⟨by rfl,?_⟩) ?_ ?_
         rotate_left
         ·intro w'
          go_simp
          with_reducible rfl
         rotate_left
         ·simp only [Act.put,setIfInBounds_toArray,set_cons_zero,set_cons_succ,i64_w,i32_w]
          rfl
         refine pure_ (i:=6) (N:=some 21) (v:=?_) (a':=?_) #[T,T,F,T,T,F,T,F,F,F,F,F,F,F,F,F,F,F,F,F,F] rfl rfl (any_of HT_.out (by kernel_rfl)) (fun _ _ _ h => h) (Or.inl ⟨by rfl,?_⟩) ?_ ?_
         rotate_left
         ·intro w'
          go_simp
          with_reducible rfl
         rotate_left
         ·simp only [Act.put,setIfInBounds_toArray,set_cons_zero,set_cons_succ,i64_w,i32_w]
          rfl
         refine pure_ (i:=7) (N:=some 22) (v:=?_) (a':=?_) #[T,T,F,T,T,F,T,T,F,F,F,F,F,F,F,F,F,F,F,F,F] rfl rfl (any_of HT_.out (by kernel_rfl)) (fun _ _ _ h => h) (Or.inl ⟨by rfl,?_⟩) ?_ ?_
         rotate_left
         ·intro w'
          go_simp
          with_reducible rfl
         rotate_left
         ·simp only [Act.put,setIfInBounds_toArray,set_cons_zero,set_cons_succ,i64_w,i32_w]
          rfl
         refine pure_ (i:=9) (N:=some 24) (v:=?_) (a':=?_) #[T,T,F,T,T,F,T,T,F,T,F,F,F,F,F,F,F,F,F,F,F] rfl rfl (any_of HT_.out (by kernel_rfl)) (fun _ _ _ h => h) (Or.inl ⟨by rfl,?_⟩) ?_ ?_
         rotate_left
         ·intro w'
          go_simp
          with_reducible rfl
         rotate_left
         ·simp only [Act.put,setIfInBounds_toArray,set_cons_zero,set_cons_succ,i64_w,i32_w]
          rfl
         refine pure_ (i:=10) (N:=some 25) (v:=?_) (a':=?_) #[T,T,F,T,T,F,T,T,F,T,T,F,F,F,F,F,F,F,F,F,F] rfl rfl (any_of HT_.out (by kernel_rfl)) (fun _ _ _ h => h) (Or.inl ⟨by rfl,?_⟩) ?_ ?_
         rotate_left
         ·intro w'
          go_simp
          with_reducible rfl
         rotate_left
         ·simp only [Act.put,setIfInBounds_toArray,set_cons_zero,set_cons_succ,i64_w,i32_w]
          rfl
         refine pure_ (i:=12) (N:=some 27) (v:=?_) (a':=?_) #[T,T,F,T,T,F,T,T,F,T,T,F,T,F,F,F,F,F,F,F,F] rfl rfl (any_of HT_.out (by kernel_rfl)) (fun _ _ _ h => h) (Or.inl ⟨by rfl,?_⟩) ?_ ?_
         rotate_left
         ·intro w'
          go_simp
          with_reducible rfl
         rotate_left
         ·simp only [Act.put,setIfInBounds_toArray,set_cons_zero,set_cons_succ,i64_w,i32_w]
          rfl
         refine pure_ (i:=13) (N:=some 28) (v:=?_) (a':=?_) #[T,T,F,T,T,F,T,T,F,T,T,F,T,T,F,F,F,F,F,F,F] rfl rfl (any_of HT_.out (by kernel_rfl)) (fun _ _ _ h => h) (Or.inl ⟨by rfl,?_⟩) ?_ ?_
         rotate_left
         ·intro w'
          go_simp
          with_reducible rfl
         rotate_left
         ·simp only [Act.put,setIfInBounds_toArray,set_cons_zero,set_cons_succ,i64_w,i32_w]
          rfl
         refine pure_ (i:=15) (N:=some 30) (v:=?_) (a':=?_) #[T,T,F,T,T,F,T,T,F,T,T,F,T,T,F,T,F,F,F,F,F] rfl rfl (any_of HT_.out (by kernel_rfl)) (fun _ _ _ h => h) (Or.inl ⟨by rfl,?_⟩) ?_ ?_
         rotate_left
         ·intro w'
          go_simp
          with_reducible rfl
         rotate_left
         ·simp only [Act.put,setIfInBounds_toArray,set_cons_zero,set_cons_succ,i64_w,i32_w]
          rfl
         refine pure_ (i:=16) (N:=some 31) (v:=?_) (a':=?_) #[T,T,F,T,T,F,T,T,F,T,T,F,T,T,F,T,T,F,F,F,F] rfl rfl (any_of HT_.out (by kernel_rfl)) (fun _ _ _ h => h) (Or.inl ⟨by rfl,?_⟩) ?_ ?_
         rotate_left
         ·intro w'
          go_simp
          with_reducible rfl
         rotate_left
         ·simp only [Act.put,setIfInBounds_toArray,set_cons_zero,set_cons_succ,i64_w,i32_w]
          rfl
         refine take_ (i:=2) (N:=some 17) (v:=?_) (a':=?_) #[T,T,T,T,T,F,T,T,F,T,T,F,T,T,F,T,T,F,F,F,F] rfl rfl (take_ofW HT_.out HW_.out (by kernel_rfl)) (fun _ _ _ h => h) (Or.inl ⟨by rfl,?_⟩) hHeld ?_ ?_
         rotate_left
         ·rintro w' ⟨s0,s1,s2,s3,s4,s5⟩
          go_simp
          with_reducible rfl
         rotate_left
         ·simp only [Act.put,setIfInBounds_toArray,set_cons_zero,set_cons_succ,i64_w,i32_w]
          rfl
         refine take_ (i:=5) (N:=some 20) (v:=?_) (a':=?_) #[T,T,T,T,T,T,T,T,F,T,T,F,T,T,F,T,T,F,F,F,F] rfl rfl (take_ofW HT_.out HW_.out (by kernel_rfl)) (fun _ _ _ h => h) (Or.inl ⟨by rfl,?_⟩) hHeld ?_ ?_
         rotate_left
         ·rintro w' ⟨s0,s1,s2,s3,s4,s5⟩
          go_simp
          with_reducible rfl
         rotate_left
         ·simp only [Act.put,setIfInBounds_toArray,set_cons_zero,set_cons_succ,i64_w,i32_w]
          rfl
         refine take_ (i:=8) (N:=some 23) (v:=?_) (a':=?_) #[T,T,T,T,T,T,T,T,T,T,T,F,T,T,F,T,T,F,F,F,F] rfl rfl (take_ofW HT_.out HW_.out (by kernel_rfl)) (fun _ _ _ h => h) (Or.inl ⟨by rfl,?_⟩) hHeld ?_ ?_
         rotate_left
         ·rintro w' ⟨s0,s1,s2,s3,s4,s5⟩
          go_simp
          with_reducible rfl
         rotate_left
         ·simp only [Act.put,setIfInBounds_toArray,set_cons_zero,set_cons_succ,i64_w,i32_w]
          rfl
         refine take_ (i:=11) (N:=some 26) (v:=?_) (a':=?_) #[T,T,T,T,T,T,T,T,T,T,T,T,T,T,F,T,T,F,F,F,F] rfl rfl (take_ofW HT_.out HW_.out (by kernel_rfl)) (fun _ _ _ h => h) (Or.inl ⟨by rfl,?_⟩) hHeld ?_ ?_
         rotate_left
         ·rintro w' ⟨s0,s1,s2,s3,s4,s5⟩
          go_simp
          with_reducible rfl
         rotate_left
         ·simp only [Act.put,setIfInBounds_toArray,set_cons_zero,set_cons_succ,i64_w,i32_w]
          rfl
         refine take_ (i:=14) (N:=some 29) (v:=?_) (a':=?_) #[T,T,T,T,T,T,T,T,T,T,T,T,T,T,T,T,T,F,F,F,F] rfl rfl (take_ofW HT_.out HW_.out (by kernel_rfl)) (fun _ _ _ h => h) (Or.inl ⟨by rfl,?_⟩) hHeld ?_ ?_
         rotate_left
         ·rintro w' ⟨s0,s1,s2,s3,s4,s5⟩
          go_simp
          with_reducible rfl
         rotate_left
         ·simp only [Act.put,setIfInBounds_toArray,set_cons_zero,set_cons_succ,i64_w,i32_w]
          rfl
         refine take_ (i:=17) (N:=some 32) (v:=?_) (a':=?_) #[T,T,T,T,T,T,T,T,T,T,T,T,T,T,T,T,T,T,F,F,F] rfl rfl (take_ofW HT_.out HW_.out (by kernel_rfl)) (fun _ _ _ h => h) (Or.inl ⟨by rfl,?_⟩) hHeld ?_ ?_
         rotate_left
         ·rintro w' ⟨s0,s1,s2,s3,s4,s5⟩
          go_simp
          with_reducible rfl
         rotate_left
         ·simp only [Act.put,setIfInBounds_toArray,set_cons_zero,set_cons_succ,i64_w,i32_w]
          rfl
         refine pure_ (i:=18) (N:=some 33) (v:=?_) (a':=?_) #[T,T,T,T,T,T,T,T,T,T,T,T,T,T,T,T,T,T,T,F,F] rfl rfl (any_of HT_.out (by kernel_rfl)) (fun _ _ _ h => h) (Or.inl ⟨by rfl,?_⟩) ?_ ?_
         rotate_left
         ·intro w'
          go_simp
          with_reducible rfl
         rotate_left
         ·simp only [Act.put,setIfInBounds_toArray,set_cons_zero,set_cons_succ,i64_w,i32_w]
          rfl
         refine one_ (i:=19) (N:=some 6) #[T,T,T,T,T,T,T,T,T,T,T,T,T,T,T,T,T,T,T,T,F] rfl rfl (one_of HT_.out (by kernel_rfl)) (by decide) (fun K hK => ?_)
         refine box_step ?hg (N:=6) ?hd (cs := #[.int .i64 0,.int .i64 0,.int .i64 0,.int .i64 0,.int .i64 0,.int .i64 0]) (t:=38) ?hr ?_; (case hd => rfl); (case hg => rfl); (case hr => first | (go_simp; done) | (go_simp; rfl))
         intro gb155 hg w16 hbox hb
         have HS0_ := (hb.cell (bl_ _ _ (hHeld.1))).trans (hHeld.1)
         have HS1_ := (hb.cell (bl_ _ _ (hHeld.2.1))).trans (hHeld.2.1)
         have HS2_ := (hb.cell (bl_ _ _ (hHeld.2.2.1))).trans (hHeld.2.2.1)
         have HS3_ := (hb.cell (bl_ _ _ (hHeld.2.2.2.1))).trans (hHeld.2.2.2.1)
         have HS4_ := (hb.cell (bl_ _ _ (hHeld.2.2.2.2.1))).trans (hHeld.2.2.2.2.1)
         have HS5_ := (hb.cell (bl_ _ _ (hHeld.2.2.2.2.2))).trans (hHeld.2.2.2.2.2)
         have n0_ := Aside0.mk (Kd.R_below (by (with_reducible repeat (first | apply Kd.R_alloc | apply Kd.R_drewN | apply Kd.R_drew)); exact HO148.out) hb)
         have n1_ := Aside0.mk (blk_below (g:=gb144) (o:=.cells #[.int .i64 0,.int .i64 0,.int .i64 0,.int .i64 0,.int .i64 0,.int .i64 0] 38 (0,0)) (by (with_reducible repeat (first | refine blk_drewN ?_ _ | refine blk_drew ?_ | refine blk_alloc ?_ _)); exact BK144.out) hb)
         have n2_ := Aside0.mk (below_step (by repeat (first | (with_reducible first | exact HB.out | apply below_alloc | apply pw_below_drewN | apply below_drew1 | refine below_set ?_ GE144.out) | exact HB.out)) hb)
         have n3_ := Aside0.mk (hbox)
         have n4_ := Aside0.mk ((by rw [hg]; exact (below_size (by repeat (first | (with_reducible first | exact HB.out | apply below_alloc | apply pw_below_drewN | apply below_drew1 | refine below_set ?_ GE144.out) | exact HB.out))) : w.heap.size ≤ gb155))
         have n5_ := Aside0.mk ((by rw [hg]; exact (below_size (by repeat (first | (with_reducible first | exact HB.out | apply below_alloc | apply pw_below_drewN | apply below_drew1 | refine below_set ?_ GE144.out) | exact HB.out))) : w.heap.size ≤ gb155))
         have n6_ := Aside0.mk ((by rw [hg]; exact Nat.ne_of_lt (blk_lt (g:=gb144) (o:=.cells #[.int .i64 0,.int .i64 0,.int .i64 0,.int .i64 0,.int .i64 0,.int .i64 0] 38 (0,0)) (by (with_reducible repeat (first | refine blk_drewN ?_ _ | refine blk_drew ?_ | refine blk_alloc ?_ _)); exact BK144.out)) : gb144 ≠ gb155))
         have n7_ := Aside0.mk ((by rw [hg]; exact Nat.ne_of_gt (blk_lt (g:=gb144) (o:=.cells #[.int .i64 0,.int .i64 0,.int .i64 0,.int .i64 0,.int .i64 0,.int .i64 0] 38 (0,0)) (by (with_reducible repeat (first | refine blk_drewN ?_ _ | refine blk_drew ?_ | refine blk_alloc ?_ _)); exact BK144.out)) : gb155 ≠ gb144))
         clear HO148
         clear BK144
         clear HB
         have HO148 := n0_
         have BK144 := n1_
         have HB := n2_
         have BK155 := n3_
         have GW155 := n4_
         have GE155 := n5_
         have NB144_155 := n6_
         have NB155_144 := n7_
         clear n0_ n1_ n2_ n3_ n4_ n5_ n6_ n7_
         clear hb hbox hg
         refine hK.out _ _ ⟨HS0_,HS1_,HS2_,HS3_,HS4_,HS5_⟩ (fun hHeld => ?_)
         clear hK K
         refine norm_ (a':=?_) ?_ ?_
         rotate_left
         ·show Act.put _ (some 6) _ = _
          simp only [Act.put,setIfInBounds_toArray,set_cons_zero,set_cons_succ,i64_w,i32_w]
          rfl
         refine one_ (i:=20) (N:=none) #[T,T,T,T,T,T,T,T,T,T,T,T,T,T,T,T,T,T,T,T,T] rfl rfl (one_of HT_.out (by kernel_rfl)) (by decide) (fun K hK => ?_)
         have hs17 : w16.cell? ⟨gb155,0,none⟩ = some (.int .i64 0) := (blk_cell BK155.out 0).trans rfl
         have hfs17 := blk_frozen BK155.out 0
         have hns17_0 := NB144_155.out
         have hms17_0 := NB155_144.out
         have hs18 : w16.cell? ⟨gb155,1,none⟩ = some (.int .i64 0) := (blk_cell BK155.out 1).trans rfl
         have hfs18 := blk_frozen BK155.out 1
         have hns18_0 := NB144_155.out
         have hms18_0 := NB155_144.out
         have hs19 : w16.cell? ⟨gb155,2,none⟩ = some (.int .i64 0) := (blk_cell BK155.out 2).trans rfl
         have hfs19 := blk_frozen BK155.out 2
         have hns19_0 := NB144_155.out
         have hms19_0 := NB155_144.out
         have hs20 : w16.cell? ⟨gb155,3,none⟩ = some (.int .i64 0) := (blk_cell BK155.out 3).trans rfl
         have hfs20 := blk_frozen BK155.out 3
         have hns20_0 := NB144_155.out
         have hms20_0 := NB155_144.out
         have hs21 : w16.cell? ⟨gb155,4,none⟩ = some (.int .i64 0) := (blk_cell BK155.out 4).trans rfl
         have hfs21 := blk_frozen BK155.out 4
         have hns21_0 := NB144_155.out
         have hms21_0 := NB155_144.out
         have hs22 : w16.cell? ⟨gb155,5,none⟩ = some (.int .i64 0) := (blk_cell BK155.out 5).trans rfl
         have hfs22 := blk_frozen BK155.out 5
         have hns22_0 := NB144_155.out
         have hms22_0 := NB155_144.out
         refine skip_ (w1 := ?_) (by rfl) rfl ?_ ?_
         rotate_left
         ·go_simp
          rfl
         refine hK.out _ _ ⟨((cell_far (p:=⟨gb155,_,none⟩) (by first | exact Kd.own_blk (Kd.R_ne HO148.out BK155.out (by decide)) | (rw [add_block]; exact Kd.own_blk (Kd.R_ne HO148.out BK155.out (by decide))) | (show (Addr.add _ _).block ≠ _; rw [add_block]; exact Kd.own_blk (Kd.R_ne HO148.out BK155.out (by decide))) | (dsimp only; exact Kd.own_blk (Kd.R_ne HO148.out BK155.out (by decide)))) _).trans (((cell_far (p:=⟨gb155,_,none⟩) (by first | exact Kd.own_blk (Kd.R_ne HO148.out BK155.out (by decide)) | (rw [add_block]; exact Kd.own_blk (Kd.R_ne HO148.out BK155.out (by decide))) | (show (Addr.add _ _).block ≠ _; rw [add_block]; exact Kd.own_blk (Kd.R_ne HO148.out BK155.out (by decide))) | (dsimp only; exact Kd.own_blk (Kd.R_ne HO148.out BK155.out (by decide)))) _).trans (((cell_far (p:=⟨gb155,_,none⟩) (by first | exact Kd.own_blk (Kd.R_ne HO148.out BK155.out (by decide)) | (rw [add_block]; exact Kd.own_blk (Kd.R_ne HO148.out BK155.out (by decide))) | (show (Addr.add _ _).block ≠ _; rw [add_block]; exact Kd.own_blk (Kd.R_ne HO148.out BK155.out (by decide))) | (dsimp only; exact Kd.own_blk (Kd.R_ne HO148.out BK155.out (by decide)))) _).trans (((cell_far (p:=⟨gb155,_,none⟩) (by first | exact Kd.own_blk (Kd.R_ne HO148.out BK155.out (by decide)) | (rw [add_block]; exact Kd.own_blk (Kd.R_ne HO148.out BK155.out (by decide))) | (show (Addr.add _ _).block ≠ _; rw [add_block]; exact Kd.own_blk (Kd.R_ne HO148.out BK155.out (by decide))) | (dsimp only; exact Kd.own_blk (Kd.R_ne HO148.out BK155.out (by decide)))) _).trans (((cell_far (p:=⟨gb155,_,none⟩) (by first | exact Kd.own_blk (Kd.R_ne HO148.out BK155.out (by decide)) | (rw [add_block]; exact Kd.own_blk (Kd.R_ne HO148.out BK155.out (by decide))) | (show (Addr.add _ _).block ≠ _; rw [add_block]; exact Kd.own_blk (Kd.R_ne HO148.out BK155.out (by decide))) | (dsimp only; exact Kd.own_blk (Kd.R_ne HO148.out BK155.out (by decide)))) _).trans (((cell_far (p:=⟨gb155,_,none⟩) (by first | exact Kd.own_blk (Kd.R_ne HO148.out BK155.out (by decide)) | (rw [add_block]; exact Kd.own_blk (Kd.R_ne HO148.out BK155.out (by decide))) | (show (Addr.add _ _).block ≠ _; rw [add_block]; exact Kd.own_blk (Kd.R_ne HO148.out BK155.out (by decide))) | (dsimp only; exact Kd.own_blk (Kd.R_ne HO148.out BK155.out (by decide)))) _).trans (hHeld.1)))))))))))),((cell_far (p:=⟨gb155,_,none⟩) (by first | exact Kd.own_blk (Kd.R_ne HO148.out BK155.out (by decide)) | (rw [add_block]; exact Kd.own_blk (Kd.R_ne HO148.out BK155.out (by decide))) | (show (Addr.add _ _).block ≠ _; rw [add_block]; exact Kd.own_blk (Kd.R_ne HO148.out BK155.out (by decide))) | (dsimp only; exact Kd.own_blk (Kd.R_ne HO148.out BK155.out (by decide)))) _).trans (((cell_far (p:=⟨gb155,_,none⟩) (by first | exact Kd.own_blk (Kd.R_ne HO148.out BK155.out (by decide)) | (rw [add_block]; exact Kd.own_blk (Kd.R_ne HO148.out BK155.out (by decide))) | (show (Addr.add _ _).block ≠ _; rw [add_block]; exact Kd.own_blk (Kd.R_ne HO148.out BK155.out (by decide))) | (dsimp only; exact Kd.own_blk (Kd.R_ne HO148.out BK155.out (by decide)))) _).trans (((cell_far (p:=⟨gb155,_,none⟩) (by first | exact Kd.own_blk (Kd.R_ne HO148.out BK155.out (by decide)) | (rw [add_block]; exact Kd.own_blk (Kd.R_ne HO148.out BK155.out (by decide))) | (show (Addr.add _ _).block ≠ _; rw [add_block]; exact Kd.own_blk (Kd.R_ne HO148.out BK155.out (by decide))) | (dsimp only; exact Kd.own_blk (Kd.R_ne HO148.out BK155.out (by decide)))) _).trans (((cell_far (p:=⟨gb155,_,none⟩) (by first | exact Kd.own_blk (Kd.R_ne HO148.out BK155.out (by decide)) | (rw [add_block]; exact Kd.own_blk (Kd.R_ne HO148.out BK155.out (by decide))) | (show (Addr.add _ _).block ≠ _; rw [add_block]; exact Kd.own_blk (Kd.R_ne HO148.out BK155.out (by decide))) | (dsimp only; exact Kd.own_blk (Kd.R_ne HO148.out BK155.out (by decide)))) _).trans (((cell_far (p:=⟨gb155,_,none⟩) (by first | exact Kd.own_blk (Kd.R_ne HO148.out BK155.out (by decide)) | (rw [add_block]; exact Kd.own_blk (Kd.R_ne HO148.out BK155.out (by decide))) | (show (Addr.add _ _).block ≠ _; rw [add_block]; exact Kd.own_blk (Kd.R_ne HO148.out BK155.out (by decide))) | (dsimp only; exact Kd.own_blk (Kd.R_ne HO148.out BK155.out (by decide)))) _).trans (((cell_far (p:=⟨gb155,_,none⟩) (by first | exact Kd.own_blk (Kd.R_ne HO148.out BK155.out (by decide)) | (rw [add_block]; exact Kd.own_blk (Kd.R_ne HO148.out BK155.out (by decide))) | (show (Addr.add _ _).block ≠ _; rw [add_block]; exact Kd.own_blk (Kd.R_ne HO148.out BK155.out (by decide))) | (dsimp only; exact Kd.own_blk (Kd.R_ne HO148.out BK155.out (by decide)))) _).trans (hHeld.2.1)))))))))))),((cell_far (p:=⟨gb155,_,none⟩) (by first | exact Kd.own_blk (Kd.R_ne HO148.out BK155.out (by decide)) | (rw [add_block]; exact Kd.own_blk (Kd.R_ne HO148.out BK155.out (by decide))) | (show (Addr.add _ _).block ≠ _; rw [add_block]; exact Kd.own_blk (Kd.R_ne HO148.out BK155.out (by decide))) | (dsimp only; exact Kd.own_blk (Kd.R_ne HO148.out BK155.out (by decide)))) _).trans (((cell_far (p:=⟨gb155,_,none⟩) (by first | exact Kd.own_blk (Kd.R_ne HO148.out BK155.out (by decide)) | (rw [add_block]; exact Kd.own_blk (Kd.R_ne HO148.out BK155.out (by decide))) | (show (Addr.add _ _).block ≠ _; rw [add_block]; exact Kd.own_blk (Kd.R_ne HO148.out BK155.out (by decide))) | (dsimp only; exact Kd.own_blk (Kd.R_ne HO148.out BK155.out (by decide)))) _).trans (((cell_far (p:=⟨gb155,_,none⟩) (by first | exact Kd.own_blk (Kd.R_ne HO148.out BK155.out (by decide)) | (rw [add_block]; exact Kd.own_blk (Kd.R_ne HO148.out BK155.out (by decide))) | (show (Addr.add _ _).block ≠ _; rw [add_block]; exact Kd.own_blk (Kd.R_ne HO148.out BK155.out (by decide))) | (dsimp only; exact Kd.own_blk (Kd.R_ne HO148.out BK155.out (by decide)))) _).trans (((cell_far (p:=⟨gb155,_,none⟩) (by first | exact Kd.own_blk (Kd.R_ne HO148.out BK155.out (by decide)) | (rw [add_block]; exact Kd.own_blk (Kd.R_ne HO148.out BK155.out (by decide))) | (show (Addr.add _ _).block ≠ _; rw [add_block]; exact Kd.own_blk (Kd.R_ne HO148.out BK155.out (by decide))) | (dsimp only; exact Kd.own_blk (Kd.R_ne HO148.out BK155.out (by decide)))) _).trans (((cell_far (p:=⟨gb155,_,none⟩) (by first | exact Kd.own_blk (Kd.R_ne HO148.out BK155.out (by decide)) | (rw [add_block]; exact Kd.own_blk (Kd.R_ne HO148.out BK155.out (by decide))) | (show (Addr.add _ _).block ≠ _; rw [add_block]; exact Kd.own_blk (Kd.R_ne HO148.out BK155.out (by decide))) | (dsimp only; exact Kd.own_blk (Kd.R_ne HO148.out BK155.out (by decide)))) _).trans (((cell_far (p:=⟨gb155,_,none⟩) (by first | exact Kd.own_blk (Kd.R_ne HO148.out BK155.out (by decide)) | (rw [add_block]; exact Kd.own_blk (Kd.R_ne HO148.out BK155.out (by decide))) | (show (Addr.add _ _).block ≠ _; rw [add_block]; exact Kd.own_blk (Kd.R_ne HO148.out BK155.out (by decide))) | (dsimp only; exact Kd.own_blk (Kd.R_ne HO148.out BK155.out (by decide)))) _).trans (hHeld.2.2.1)))))))))))),((cell_far (p:=⟨gb155,_,none⟩) (by first | exact Kd.own_blk (Kd.R_ne HO148.out BK155.out (by decide)) | (rw [add_block]; exact Kd.own_blk (Kd.R_ne HO148.out BK155.out (by decide))) | (show (Addr.add _ _).block ≠ _; rw [add_block]; exact Kd.own_blk (Kd.R_ne HO148.out BK155.out (by decide))) | (dsimp only; exact Kd.own_blk (Kd.R_ne HO148.out BK155.out (by decide)))) _).trans (((cell_far (p:=⟨gb155,_,none⟩) (by first | exact Kd.own_blk (Kd.R_ne HO148.out BK155.out (by decide)) | (rw [add_block]; exact Kd.own_blk (Kd.R_ne HO148.out BK155.out (by decide))) | (show (Addr.add _ _).block ≠ _; rw [add_block]; exact Kd.own_blk (Kd.R_ne HO148.out BK155.out (by decide))) | (dsimp only; exact Kd.own_blk (Kd.R_ne HO148.out BK155.out (by decide)))) _).trans (((cell_far (p:=⟨gb155,_,none⟩) (by first | exact Kd.own_blk (Kd.R_ne HO148.out BK155.out (by decide)) | (rw [add_block]; exact Kd.own_blk (Kd.R_ne HO148.out BK155.out (by decide))) | (show (Addr.add _ _).block ≠ _; rw [add_block]; exact Kd.own_blk (Kd.R_ne HO148.out BK155.out (by decide))) | (dsimp only; exact Kd.own_blk (Kd.R_ne HO148.out BK155.out (by decide)))) _).trans (((cell_far (p:=⟨gb155,_,none⟩) (by first | exact Kd.own_blk (Kd.R_ne HO148.out BK155.out (by decide)) | (rw [add_block]; exact Kd.own_blk (Kd.R_ne HO148.out BK155.out (by decide))) | (show (Addr.add _ _).block ≠ _; rw [add_block]; exact Kd.own_blk (Kd.R_ne HO148.out BK155.out (by decide))) | (dsimp only; exact Kd.own_blk (Kd.R_ne HO148.out BK155.out (by decide)))) _).trans (((cell_far (p:=⟨gb155,_,none⟩) (by first | exact Kd.own_blk (Kd.R_ne HO148.out BK155.out (by decide)) | (rw [add_block]; exact Kd.own_blk (Kd.R_ne HO148.out BK155.out (by decide))) | (show (Addr.add _ _).block ≠ _; rw [add_block]; exact Kd.own_blk (Kd.R_ne HO148.out BK155.out (by decide))) | (dsimp only; exact Kd.own_blk (Kd.R_ne HO148.out BK155.out (by decide)))) _).trans (((cell_far (p:=⟨gb155,_,none⟩) (by first | exact Kd.own_blk (Kd.R_ne HO148.out BK155.out (by decide)) | (rw [add_block]; exact Kd.own_blk (Kd.R_ne HO148.out BK155.out (by decide))) | (show (Addr.add _ _).block ≠ _; rw [add_block]; exact Kd.own_blk (Kd.R_ne HO148.out BK155.out (by decide))) | (dsimp only; exact Kd.own_blk (Kd.R_ne HO148.out BK155.out (by decide)))) _).trans (hHeld.2.2.2.1)))))))))))),((cell_far (p:=⟨gb155,_,none⟩) (by first | exact Kd.own_blk (Kd.R_ne HO148.out BK155.out (by decide)) | (rw [add_block]; exact Kd.own_blk (Kd.R_ne HO148.out BK155.out (by decide))) | (show (Addr.add _ _).block ≠ _; rw [add_block]; exact Kd.own_blk (Kd.R_ne HO148.out BK155.out (by decide))) | (dsimp only; exact Kd.own_blk (Kd.R_ne HO148.out BK155.out (by decide)))) _).trans (((cell_far (p:=⟨gb155,_,none⟩) (by first | exact Kd.own_blk (Kd.R_ne HO148.out BK155.out (by decide)) | (rw [add_block]; exact Kd.own_blk (Kd.R_ne HO148.out BK155.out (by decide))) | (show (Addr.add _ _).block ≠ _; rw [add_block]; exact Kd.own_blk (Kd.R_ne HO148.out BK155.out (by decide))) | (dsimp only; exact Kd.own_blk (Kd.R_ne HO148.out BK155.out (by decide)))) _).trans (((cell_far (p:=⟨gb155,_,none⟩) (by first | exact Kd.own_blk (Kd.R_ne HO148.out BK155.out (by decide)) | (rw [add_block]; exact Kd.own_blk (Kd.R_ne HO148.out BK155.out (by decide))) | (show (Addr.add _ _).block ≠ _; rw [add_block]; exact Kd.own_blk (Kd.R_ne HO148.out BK155.out (by decide))) | (dsimp only; exact Kd.own_blk (Kd.R_ne HO148.out BK155.out (by decide)))) _).trans (((cell_far (p:=⟨gb155,_,none⟩) (by first | exact Kd.own_blk (Kd.R_ne HO148.out BK155.out (by decide)) | (rw [add_block]; exact Kd.own_blk (Kd.R_ne HO148.out BK155.out (by decide))) | (show (Addr.add _ _).block ≠ _; rw [add_block]; exact Kd.own_blk (Kd.R_ne HO148.out BK155.out (by decide))) | (dsimp only; exact Kd.own_blk (Kd.R_ne HO148.out BK155.out (by decide)))) _).trans (((cell_far (p:=⟨gb155,_,none⟩) (by first | exact Kd.own_blk (Kd.R_ne HO148.out BK155.out (by decide)) | (rw [add_block]; exact Kd.own_blk (Kd.R_ne HO148.out BK155.out (by decide))) | (show (Addr.add _ _).block ≠ _; rw [add_block]; exact Kd.own_blk (Kd.R_ne HO148.out BK155.out (by decide))) | (dsimp only; exact Kd.own_blk (Kd.R_ne HO148.out BK155.out (by decide)))) _).trans (((cell_far (p:=⟨gb155,_,none⟩) (by first | exact Kd.own_blk (Kd.R_ne HO148.out BK155.out (by decide)) | (rw [add_block]; exact Kd.own_blk (Kd.R_ne HO148.out BK155.out (by decide))) | (show (Addr.add _ _).block ≠ _; rw [add_block]; exact Kd.own_blk (Kd.R_ne HO148.out BK155.out (by decide))) | (dsimp only; exact Kd.own_blk (Kd.R_ne HO148.out BK155.out (by decide)))) _).trans (hHeld.2.2.2.2.1)))))))))))),((cell_far (p:=⟨gb155,_,none⟩) (by first | exact Kd.own_blk (Kd.R_ne HO148.out BK155.out (by decide)) | (rw [add_block]; exact Kd.own_blk (Kd.R_ne HO148.out BK155.out (by decide))) | (show (Addr.add _ _).block ≠ _; rw [add_block]; exact Kd.own_blk (Kd.R_ne HO148.out BK155.out (by decide))) | (dsimp only; exact Kd.own_blk (Kd.R_ne HO148.out BK155.out (by decide)))) _).trans (((cell_far (p:=⟨gb155,_,none⟩) (by first | exact Kd.own_blk (Kd.R_ne HO148.out BK155.out (by decide)) | (rw [add_block]; exact Kd.own_blk (Kd.R_ne HO148.out BK155.out (by decide))) | (show (Addr.add _ _).block ≠ _; rw [add_block]; exact Kd.own_blk (Kd.R_ne HO148.out BK155.out (by decide))) | (dsimp only; exact Kd.own_blk (Kd.R_ne HO148.out BK155.out (by decide)))) _).trans (((cell_far (p:=⟨gb155,_,none⟩) (by first | exact Kd.own_blk (Kd.R_ne HO148.out BK155.out (by decide)) | (rw [add_block]; exact Kd.own_blk (Kd.R_ne HO148.out BK155.out (by decide))) | (show (Addr.add _ _).block ≠ _; rw [add_block]; exact Kd.own_blk (Kd.R_ne HO148.out BK155.out (by decide))) | (dsimp only; exact Kd.own_blk (Kd.R_ne HO148.out BK155.out (by decide)))) _).trans (((cell_far (p:=⟨gb155,_,none⟩) (by first | exact Kd.own_blk (Kd.R_ne HO148.out BK155.out (by decide)) | (rw [add_block]; exact Kd.own_blk (Kd.R_ne HO148.out BK155.out (by decide))) | (show (Addr.add _ _).block ≠ _; rw [add_block]; exact Kd.own_blk (Kd.R_ne HO148.out BK155.out (by decide))) | (dsimp only; exact Kd.own_blk (Kd.R_ne HO148.out BK155.out (by decide)))) _).trans (((cell_far (p:=⟨gb155,_,none⟩) (by first | exact Kd.own_blk (Kd.R_ne HO148.out BK155.out (by decide)) | (rw [add_block]; exact Kd.own_blk (Kd.R_ne HO148.out BK155.out (by decide))) | (show (Addr.add _ _).block ≠ _; rw [add_block]; exact Kd.own_blk (Kd.R_ne HO148.out BK155.out (by decide))) | (dsimp only; exact Kd.own_blk (Kd.R_ne HO148.out BK155.out (by decide)))) _).trans (((cell_far (p:=⟨gb155,_,none⟩) (by first | exact Kd.own_blk (Kd.R_ne HO148.out BK155.out (by decide)) | (rw [add_block]; exact Kd.own_blk (Kd.R_ne HO148.out BK155.out (by decide))) | (show (Addr.add _ _).block ≠ _; rw [add_block]; exact Kd.own_blk (Kd.R_ne HO148.out BK155.out (by decide))) | (dsimp only; exact Kd.own_blk (Kd.R_ne HO148.out BK155.out (by decide)))) _).trans (hHeld.2.2.2.2.2))))))))))))⟩ (fun hHeld => ?_)
         clear hK K
         refine done_ (done_of HT_.out (by kernel_rfl)) ?_
         have hnb23 := NB155_144.out
         have hnc23 := NB144_155.out
         have hcz24_0 : w16.cell? ⟨gb155,0,none⟩ = some (.int .i64 0) := (blk_cell BK155.out 0).trans rfl
         have hcz24_1 : w16.cell? ⟨gb155,1,none⟩ = some (.int .i64 0) := (blk_cell BK155.out 1).trans rfl
         have hcz24_2 : w16.cell? ⟨gb155,2,none⟩ = some (.int .i64 0) := (blk_cell BK155.out 2).trans rfl
         have hcz24_3 : w16.cell? ⟨gb155,3,none⟩ = some (.int .i64 0) := (blk_cell BK155.out 3).trans rfl
         have hcz24_4 : w16.cell? ⟨gb155,4,none⟩ = some (.int .i64 0) := (blk_cell BK155.out 4).trans rfl
         have hcz24_5 : w16.cell? ⟨gb155,5,none⟩ = some (.int .i64 0) := (blk_cell BK155.out 5).trans rfl
         have hfz24_0 := blk_frozen BK155.out 0
         have hfz24_1 := blk_frozen BK155.out 1
         have hfz24_2 := blk_frozen BK155.out 2
         have hfz24_3 := blk_frozen BK155.out 3
         have hfz24_4 := blk_frozen BK155.out 4
         have hfz24_5 := blk_frozen BK155.out 5
         try go_wp2_with (first | ((with_reducible refine gate_callee (f:=101) rfl ?_); refine goesL_ (some 35) rfl rfl Tryd.func101 (by kernel_rfl) rfl #[.agg #[.int .i64 (rd t145 0),.int .i64 (rd t145 1),.int .i64 (rd t145 2),.int .i64 (rd t145 3),.int .i64 (rd t145 4),.int .i64 (rd t145 5)]] rfl (by (try simp only [List.map_toArray,List.map_cons,List.map_nil]); first | done | rfl | (simp only [List.length_drop,List.length_take]; rfl)) ?_; (with_reducible refine (spec_AggOK.calls (rd t145 0) (rd t145 1) (rd t145 2) (rd t145 3) (rd t145 4) (rd t145 5) true _ A10.out).mono ?_); rintro e w25 ⟨rfl,hb⟩; refine ⟨_,rfl,?_⟩; have n0_ := Aside0.mk (Kd.R_below (by (with_reducible repeat (first | apply Kd.R_alloc | apply Kd.R_drewN | apply Kd.R_drew)); exact (Kd.R_mono (Kd.R_far (p:=⟨gb155,5,none⟩) (Kd.R_far (p:=⟨gb155,4,none⟩) (Kd.R_far (p:=⟨gb155,3,none⟩) (Kd.R_far (p:=⟨gb155,2,none⟩) (Kd.R_far (p:=⟨gb155,1,none⟩) (Kd.R_far (p:=⟨gb155,0,none⟩) (Kd.R_types HO148.out BK155.out (by decide)) (fun _ hk => hk.2) (.int .i64 (rd t145 0))) (fun _ hk => hk.2) (.int .i64 (rd t145 1))) (fun _ hk => hk.2) (.int .i64 (rd t145 2))) (fun _ hk => hk.2) (.int .i64 (rd t145 3))) (fun _ hk => hk.2) (.int .i64 (rd t145 4))) (fun _ hk => hk.2) (.int .i64 (rd t145 5))) (fun _ h_ => h_.1))) hb); have n1_ := Aside0.mk (blk_below (g:=gb144) (o:=.cells #[.int .i64 0,.int .i64 0,.int .i64 0,.int .i64 0,.int .i64 0,.int .i64 0] 38 (0,0)) (by (with_reducible repeat (first | refine blk_drewN ?_ _ | refine blk_drew ?_ | refine blk_alloc ?_ _)); refine blk_far ?_ NB144_155.out _; (with_reducible repeat (first | refine blk_drewN ?_ _ | refine blk_drew ?_ | refine blk_alloc ?_ _)); refine blk_far ?_ NB144_155.out _; (with_reducible repeat (first | refine blk_drewN ?_ _ | refine blk_drew ?_ | refine blk_alloc ?_ _)); refine blk_far ?_ NB144_155.out _; (with_reducible repeat (first | refine blk_drewN ?_ _ | refine blk_drew ?_ | refine blk_alloc ?_ _)); refine blk_far ?_ NB144_155.out _; (with_reducible repeat (first | refine blk_drewN ?_ _ | refine blk_drew ?_ | refine blk_alloc ?_ _)); refine blk_far ?_ NB144_155.out _; (with_reducible repeat (first | refine blk_drewN ?_ _ | refine blk_drew ?_ | refine blk_alloc ?_ _)); refine blk_far ?_ NB144_155.out _; (with_reducible repeat (first | refine blk_drewN ?_ _ | refine blk_drew ?_ | refine blk_alloc ?_ _)); exact BK144.out) hb); have n2_ := Aside0.mk (blk_below (g:=gb155) (o:=.cells #[.int .i64 (rd t145 0),.int .i64 (rd t145 1),.int .i64 (rd t145 2),.int .i64 (rd t145 3),.int .i64 (rd t145 4),.int .i64 (rd t145 5)] 38 (0,0)) (by (with_reducible repeat (first | refine blk_drewN ?_ _ | refine blk_drew ?_ | refine blk_alloc ?_ _)); refine blk_put (cs := #[.int .i64 (rd t145 0),.int .i64 (rd t145 1),.int .i64 (rd t145 2),.int .i64 (rd t145 3),.int .i64 (rd t145 4),.int .i64 0]) ?_ 5 _ rfl; (with_reducible repeat (first | refine blk_drewN ?_ _ | refine blk_drew ?_ | refine blk_alloc ?_ _)); refine blk_put (cs := #[.int .i64 (rd t145 0),.int .i64 (rd t145 1),.int .i64 (rd t145 2),.int .i64 (rd t145 3),.int .i64 0,.int .i64 0]) ?_ 4 _ rfl; (with_reducible repeat (first | refine blk_drewN ?_ _ | refine blk_drew ?_ | refine blk_alloc ?_ _)); refine blk_put (cs := #[.int .i64 (rd t145 0),.int .i64 (rd t145 1),.int .i64 (rd t145 2),.int .i64 0,.int .i64 0,.int .i64 0]) ?_ 3 _ rfl; (with_reducible repeat (first | refine blk_drewN ?_ _ | refine blk_drew ?_ | refine blk_alloc ?_ _)); refine blk_put (cs := #[.int .i64 (rd t145 0),.int .i64 (rd t145 1),.int .i64 0,.int .i64 0,.int .i64 0,.int .i64 0]) ?_ 2 _ rfl; (with_reducible repeat (first | refine blk_drewN ?_ _ | refine blk_drew ?_ | refine blk_alloc ?_ _)); refine blk_put (cs := #[.int .i64 (rd t145 0),.int .i64 0,.int .i64 0,.int .i64 0,.int .i64 0,.int .i64 0]) ?_ 1 _ rfl; (with_reducible repeat (first | refine blk_drewN ?_ _ | refine blk_drew ?_ | refine blk_alloc ?_ _)); refine blk_put (cs := #[.int .i64 0,.int .i64 0,.int .i64 0,.int .i64 0,.int .i64 0,.int .i64 0]) ?_ 0 _ rfl; (with_reducible repeat (first | refine blk_drewN ?_ _ | refine blk_drew ?_ | refine blk_alloc ?_ _)); exact BK155.out) hb); have n3_ := Aside0.mk (below_step (by repeat (first | (with_reducible first | exact HB.out | apply below_alloc | apply pw_below_drewN | apply below_drew1 | refine below_set ?_ GE144.out | refine below_set ?_ GE155.out) | exact HB.out)) hb); clear HO148; clear BK144; clear BK155; clear HB; have HO148 := n0_; have BK144 := n1_; have BK155 := n2_; have HB := n3_; clear n0_ n1_ n2_ n3_; (try clear hb); (try clear hb2); (try clear hk); (try clear hi); have hcz26_0 : w25.cell? ⟨gb155,0,none⟩ = some (.int .i64 (rd t145 0)) := (blk_cell BK155.out 0).trans rfl; have hcz26_1 : w25.cell? ⟨gb155,1,none⟩ = some (.int .i64 (rd t145 1)) := (blk_cell BK155.out 1).trans rfl; have hcz26_2 : w25.cell? ⟨gb155,2,none⟩ = some (.int .i64 (rd t145 2)) := (blk_cell BK155.out 2).trans rfl; have hcz26_3 : w25.cell? ⟨gb155,3,none⟩ = some (.int .i64 (rd t145 3)) := (blk_cell BK155.out 3).trans rfl; have hcz26_4 : w25.cell? ⟨gb155,4,none⟩ = some (.int .i64 (rd t145 4)) := (blk_cell BK155.out 4).trans rfl; have hcz26_5 : w25.cell? ⟨gb155,5,none⟩ = some (.int .i64 (rd t145 5)) := (blk_cell BK155.out 5).trans rfl; have hfz26_0 := blk_frozen BK155.out 0; have hfz26_1 := blk_frozen BK155.out 1; have hfz26_2 := blk_frozen BK155.out 2; have hfz26_3 := blk_frozen BK155.out 3; have hfz26_4 := blk_frozen BK155.out 4; have hfz26_5 := blk_frozen BK155.out 5; have hcz27_0 : w25.cell? ⟨gb144,0,none⟩ = some (.int .i64 0) := (blk_cell BK144.out 0).trans rfl; have hcz27_1 : w25.cell? ⟨gb144,1,none⟩ = some (.int .i64 0) := (blk_cell BK144.out 1).trans rfl; have hcz27_2 : w25.cell? ⟨gb144,2,none⟩ = some (.int .i64 0) := (blk_cell BK144.out 2).trans rfl; have hcz27_3 : w25.cell? ⟨gb144,3,none⟩ = some (.int .i64 0) := (blk_cell BK144.out 3).trans rfl; have hcz27_4 : w25.cell? ⟨gb144,4,none⟩ = some (.int .i64 0) := (blk_cell BK144.out 4).trans rfl; have hcz27_5 : w25.cell? ⟨gb144,5,none⟩ = some (.int .i64 0) := (blk_cell BK144.out 5).trans rfl; have hfz27_0 := blk_frozen BK144.out 0; have hfz27_1 := blk_frozen BK144.out 1; have hfz27_2 := blk_frozen BK144.out 2; have hfz27_3 := blk_frozen BK144.out 3; have hfz27_4 := blk_frozen BK144.out 4; have hfz27_5 := blk_frozen BK144.out 5))
         refine bodyPost_ret (results_ct rfl _ _ gb144 38 #[.int .i64 (rd t145 0),.int .i64 (rd t145 1),.int .i64 (rd t145 2),.int .i64 (rd t145 3),.int .i64 (rd t145 4),.int .i64 (rd t145 5)] (0,0) _ rfl (by (with_reducible repeat (first | refine blk_drewN ?_ _ | refine blk_drew ?_ | refine blk_alloc ?_ _)); refine blk_put (cs := #[.int .i64 (rd t145 0),.int .i64 (rd t145 1),.int .i64 (rd t145 2),.int .i64 (rd t145 3),.int .i64 (rd t145 4),.int .i64 0]) ?_ 5 _ rfl; (with_reducible repeat (first | refine blk_drewN ?_ _ | refine blk_drew ?_ | refine blk_alloc ?_ _)); refine blk_put (cs := #[.int .i64 (rd t145 0),.int .i64 (rd t145 1),.int .i64 (rd t145 2),.int .i64 (rd t145 3),.int .i64 0,.int .i64 0]) ?_ 4 _ rfl; (with_reducible repeat (first | refine blk_drewN ?_ _ | refine blk_drew ?_ | refine blk_alloc ?_ _)); refine blk_put (cs := #[.int .i64 (rd t145 0),.int .i64 (rd t145 1),.int .i64 (rd t145 2),.int .i64 0,.int .i64 0,.int .i64 0]) ?_ 3 _ rfl; (with_reducible repeat (first | refine blk_drewN ?_ _ | refine blk_drew ?_ | refine blk_alloc ?_ _)); refine blk_put (cs := #[.int .i64 (rd t145 0),.int .i64 (rd t145 1),.int .i64 0,.int .i64 0,.int .i64 0,.int .i64 0]) ?_ 2 _ rfl; (with_reducible repeat (first | refine blk_drewN ?_ _ | refine blk_drew ?_ | refine blk_alloc ?_ _)); refine blk_put (cs := #[.int .i64 (rd t145 0),.int .i64 0,.int .i64 0,.int .i64 0,.int .i64 0,.int .i64 0]) ?_ 1 _ rfl; (with_reducible repeat (first | refine blk_drewN ?_ _ | refine blk_drew ?_ | refine blk_alloc ?_ _)); refine blk_put (cs := #[.int .i64 0,.int .i64 0,.int .i64 0,.int .i64 0,.int .i64 0,.int .i64 0]) ?_ 0 _ rfl; (with_reducible repeat (first | refine blk_drewN ?_ _ | refine blk_drew ?_ | refine blk_alloc ?_ _)); exact BK144.out) Tryd.underlying38 rfl (by kernel_rfl)) rfl ?_
         exact ⟨by first | rfl | (simp [errW_none,errW_some] <;> rfl) | (simp [*,errW_none,errW_some] <;> rfl),by repeat (first | (with_reducible first | exact HB.out | apply below_alloc | apply pw_below_drewN | apply below_drew1 | refine below_set ?_ GE144.out | refine below_set ?_ GE155.out) | exact HB.out)⟩
        ·replace c11 := Bool.eq_false_iff.mpr c11
         subst c11
         have H1 : (some (0,0,0,0,0,0,false)) = some (r1,r2,r3,r4,r5,r6,r7) := by rw [if_neg (show ¬ (false = true) by decide)] at H; exact H
         clear H
         have H := H1
         clear H1
         simp only [Option.some.injEq,Prod.mk.injEq] at H
         obtain ⟨rfl,rfl,rfl,rfl,rfl,rfl,rfl⟩ := H
         go_enter Tryd.func66,Tryd.ntmps66
         try go_wp2_with (first | ((with_reducible refine gate_dst (N:=2) rfl ?_); refine box_event ?hg (N:=2) ?hd (cs := #[.int .i64 0,.int .i64 0,.int .i64 0,.int .i64 0,.int .i64 0,.int .i64 0]) (t:=38) ?hr ?_; (case hd => rfl); (case hg => rfl); (case hr => first | (go_simp; done) | (go_simp; rfl)); intro gb144 hg w28 hbox hb; have n0_ := Aside0.mk (below_step (by repeat (first | (with_reducible first | exact HB.out | apply below_alloc | apply pw_below_drewN | apply below_drew1) | exact HB.out)) hb); have n1_ := Aside0.mk (hbox); have n2_ := Aside0.mk ((by rw [hg]; exact (below_size (by repeat (first | (with_reducible first | exact HB.out | apply below_alloc | apply pw_below_drewN | apply below_drew1) | exact HB.out))) : w.heap.size ≤ gb144)); have n3_ := Aside0.mk ((by rw [hg]; exact (below_size (by repeat (first | (with_reducible first | exact HB.out | apply below_alloc | apply pw_below_drewN | apply below_drew1) | exact HB.out))) : w.heap.size ≤ gb144)); clear HB; have HB := n0_; have BK144 := n1_; have GW144 := n2_; have GE144 := n3_; clear n0_ n1_ n2_ n3_; clear hb hbox hg) | ((with_reducible refine gate_callee (f:=100) rfl ?_); refine goesL_ (some 9) rfl rfl Tryd.func100 (by kernel_rfl) rfl #[.string a0,.int .u8 44,.int .i64 6] rfl (by (try simp only [List.map_toArray,List.map_cons,List.map_nil]); first | done | rfl | (simp only [List.length_drop,List.length_take]; rfl)) ?_; (with_reducible refine (spec_l02Numbers.calls k a0 44 6 t145 true _ A2.out).mono ?_); rintro e w29 ⟨v147,rfl,ho0,hb⟩; refine ⟨_,rfl,?_⟩; have n0_ := Aside0.mk (Kd.R_lower ho0 (below_size (by repeat (first | (with_reducible first | exact HB.out | apply below_alloc | apply pw_below_drewN | apply below_drew1 | refine below_set ?_ GE144.out) | exact HB.out)))); have n1_ := Aside0.mk (blk_below (g:=gb144) (o:=.cells #[.int .i64 0,.int .i64 0,.int .i64 0,.int .i64 0,.int .i64 0,.int .i64 0] 38 (0,0)) (by (with_reducible repeat (first | refine blk_drewN ?_ _ | refine blk_drew ?_ | refine blk_alloc ?_ _)); exact BK144.out) hb); have n2_ := Aside0.mk (below_step (by repeat (first | (with_reducible first | exact HB.out | apply below_alloc | apply pw_below_drewN | apply below_drew1 | refine below_set ?_ GE144.out) | exact HB.out)) hb); clear BK144; clear HB; have HO148 := n0_; have BK144 := n1_; have HB := n2_; clear n0_ n1_ n2_; (try clear hb); (try clear hb2); (try clear hk); (try clear hi); (try clear ho0)))
         have n0_ := Aside0.mk (Kd.R_drew HO148.out)
         have n1_ := Aside0.mk (blk_drew BK144.out)
         have n2_ := Aside0.mk (below_drew1 HB.out)
         clear HO148
         clear BK144
         clear HB
         have HO148 := n0_
         have BK144 := n1_
         have HB := n2_
         clear n0_ n1_ n2_
         obtain ⟨Ao31,co31,eo31⟩ := Kd.R_slice HO148.out
         (first | subst eo31 | (injection eo31 with f1_ f2_ f3_; have f4_ := f1_.symm; have f5_ := f3_.symm; clear f1_ f2_ f3_; subst f4_; subst f5_))
         have p149 : 0 ≤ (0 : Int) := (by omega)
         have q149 : 0 < (t145.length : Int) := of_decide_eq_true (by first | (with_reducible assumption) | assumption)
         obtain ⟨ad149,e149,hx149_0⟩ := Kd.at_int (Kd.R_reads' HO148.out).2.2 0 p149 q149
         cases e149
         have qi149 : (0 < t145.length) = True := eq_true (by omega)
         (try rw [show ((0 : Int)).toNat = 0 from rfl] at hx149_0)
         (try rw [Addr.add_zero'] at hx149_0)
         replace p149 := eq_true p149
         replace q149 := eq_true q149
         have p150 : 0 ≤ (1 : Int) := (by omega)
         have q150 : 1 < (t145.length : Int) := of_decide_eq_true (by first | (with_reducible assumption) | assumption)
         obtain ⟨ad150,e150,hx150_0⟩ := Kd.at_int (Kd.R_reads' HO148.out).2.2 1 p150 q150
         obtain rfl : ad149 = ad150 := (by injection e150)
         (try simp only [show (1 : Int).toNat = 1 from rfl,Nat.reduceMul,Nat.reduceEqDiff,Go.Addr.add,↓reduceIte] at hx150_0)
         have qi150 : (1 < t145.length) = True := eq_true (by omega)
         (try rw [show ((1 : Int)).toNat = 1 from rfl] at hx150_0)
         replace p150 := eq_true p150
         replace q150 := eq_true q150
         have p151 : 0 ≤ (2 : Int) := (by omega)
         have q151 : 2 < (t145.length : Int) := of_decide_eq_true (by first | (with_reducible assumption) | assumption)
         obtain ⟨ad151,e151,hx151_0⟩ := Kd.at_int (Kd.R_reads' HO148.out).2.2 2 p151 q151
         obtain rfl : ad149 = ad151 := (by injection e151)
         (try simp only [show (2 : Int).toNat = 2 from rfl,Nat.reduceMul,Nat.reduceEqDiff,Go.Addr.add,↓reduceIte] at hx151_0)
         have qi151 : (2 < t145.length) = True := eq_true (by omega)
         (try rw [show ((2 : Int)).toNat = 2 from rfl] at hx151_0)
         replace p151 := eq_true p151
         replace q151 := eq_true q151
         have p152 : 0 ≤ (3 : Int) := (by omega)
         have q152 : 3 < (t145.length : Int) := of_decide_eq_true (by first | (with_reducible assumption) | assumption)
         obtain ⟨ad152,e152,hx152_0⟩ := Kd.at_int (Kd.R_reads' HO148.out).2.2 3 p152 q152
         obtain rfl : ad149 = ad152 := (by injection e152)
         (try simp only [show (3 : Int).toNat = 3 from rfl,Nat.reduceMul,Nat.reduceEqDiff,Go.Addr.add,↓reduceIte] at hx152_0)
         have qi152 : (3 < t145.length) = True := eq_true (by omega)
         (try rw [show ((3 : Int)).toNat = 3 from rfl] at hx152_0)
         replace p152 := eq_true p152
         replace q152 := eq_true q152
         have p153 : 0 ≤ (4 : Int) := (by omega)
         have q153 : 4 < (t145.length : Int) := of_decide_eq_true (by first | (with_reducible assumption) | assumption)
         obtain ⟨ad153,e153,hx153_0⟩ := Kd.at_int (Kd.R_reads' HO148.out).2.2 4 p153 q153
         obtain rfl : ad149 = ad153 := (by injection e153)
         (try simp only [show (4 : Int).toNat = 4 from rfl,Nat.reduceMul,Nat.reduceEqDiff,Go.Addr.add,↓reduceIte] at hx153_0)
         have qi153 : (4 < t145.length) = True := eq_true (by omega)
         (try rw [show ((4 : Int)).toNat = 4 from rfl] at hx153_0)
         replace p153 := eq_true p153
         replace q153 := eq_true q153
         have p154 : 0 ≤ (5 : Int) := (by omega)
         have q154 : 5 < (t145.length : Int) := of_decide_eq_true (by first | (with_reducible assumption) | assumption)
         obtain ⟨ad154,e154,hx154_0⟩ := Kd.at_int (Kd.R_reads' HO148.out).2.2 5 p154 q154
         obtain rfl : ad149 = ad154 := (by injection e154)
         (try simp only [show (5 : Int).toNat = 5 from rfl,Nat.reduceMul,Nat.reduceEqDiff,Go.Addr.add,↓reduceIte] at hx154_0)
         have qi154 : (5 < t145.length) = True := eq_true (by omega)
         (try rw [show ((5 : Int)).toNat = 5 from rfl] at hx154_0)
         replace p154 := eq_true p154
         replace q154 := eq_true q154
         refine start_ (n:=21) (S:=fun w' => w'.cell? ad149 = some (.int .i64 (rd t145 0)) ∧ w'.cell? ⟨ad149.block,ad149.off + 1,none⟩ = some (.int .i64 (rd t145 1)) ∧ w'.cell? ⟨ad149.block,ad149.off + 2,none⟩ = some (.int .i64 (rd t145 2)) ∧ w'.cell? ⟨ad149.block,ad149.off + 3,none⟩ = some (.int .i64 (rd t145 3)) ∧ w'.cell? ⟨ad149.block,ad149.off + 4,none⟩ = some (.int .i64 (rd t145 4)) ∧ w'.cell? ⟨ad149.block,ad149.off + 5,none⟩ = some (.int .i64 (rd t145 5))) (ds := []) #[F,F,F,F,F,F,F,F,F,F,F,F,F,F,F,F,F,F,F,F,F] (by kernel_rfl) rfl rfl ⟨hx149_0,hx150_0,hx151_0,hx152_0,hx153_0,hx154_0⟩ (fun hHeld => ?_); refine with_tabW spec_l02Read.tab4 spec_l02Read.bits4 (fun HT_ HW_ => ?_)
         generalize w29.drew = w30 at HO148 BK144 HB hx149_0 hx150_0 hx151_0 hx152_0 hx153_0 hx154_0 hHeld ⊢
         refine pure_ (i:=0) (N:=some 15) (v:=?_) (a':=?_) #[T,F,F,F,F,F,F,F,F,F,F,F,F,F,F,F,F,F,F,F,F] rfl rfl (any_of HT_.out (by kernel_rfl)) (fun _ _ _ h => h) (Or.inl ⟨by rfl,?_⟩) ?_ ?_
         rotate_left
         ·intro w'
          go_simp
          with_reducible rfl
         rotate_left
         ·simp only [Act.put,setIfInBounds_toArray,set_cons_zero,set_cons_succ,i64_w,i32_w]
          rfl
         refine pure_ (i:=1) (N:=some 16) (v:=?_) (a':=?_) #[T,T,F,F,F,F,F,F,F,F,F,F,F,F,F,F,F,F,F,F,F] rfl rfl (any_of HT_.out (by kernel_rfl)) (fun _ _ _ h => h) (Or.inl ⟨by rfl,?_⟩) ?_ ?_
         rotate_left
         ·intro w'
          go_simp
          with_reducible rfl
         rotate_left
         ·simp only [Act.put,setIfInBounds_toArray,set_cons_zero,set_cons_succ,i64_w,i32_w]
          rfl
         refine pure_ (i:=3) (N:=some 18) (v:=?_) (a':=?_) #[T,T,F,T,F,F,F,F,F,F,F,F,F,F,F,F,F,F,F,F,F] rfl rfl (any_of HT_.out (by kernel_rfl)) (fun _ _ _ h => h) (Or.inl ⟨by rfl,?_⟩) ?_ ?_
         rotate_left
         ·intro w'
          go_simp
          with_reducible rfl
         rotate_left
         ·simp only [Act.put,setIfInBounds_toArray,set_cons_zero,set_cons_succ,i64_w,i32_w]
          rfl
         refine pure_ (i:=4) (N:=some 19) (v:=?_) (a':=?_) #[T,T,F,T,T,F,F,F,F,F,F,F,F,F,F,F,F,F,F,F,F] rfl rfl (any_of HT_.out (by kernel_rfl)) (fun _ _ _ h => h) (Or.inl ⟨by rfl,?_⟩) ?_ ?_
         rotate_left
         ·intro w'
          go_simp
          with_reducible rfl
         rotate_left
         ·simp only [Act.put,setIfInBounds_toArray,set_cons_zero,set_cons_succ,i64_w,i32_w]
          rfl
         refine pure_ (i:=6) (N:=some 21) (v:=?_) (a':=?_) #[T,T,F,T,T,F,T,F,F,F,F,F,F,F,F,F,F,F,F,F,F] rfl rfl (any_of HT_.out (by kernel_rfl)) (fun _ _ _ h => h) (Or.inl ⟨by rfl,?_⟩) ?_ ?_
         rotate_left
         ·intro w'
          go_simp
          with_reducible rfl
         rotate_left
         ·simp only [Act.put,setIfInBounds_toArray,set_cons_zero,set_cons_succ,i64_w,i32_w]
          rfl
         refine pure_ (i:=7) (N:=some 22) (v:=?_) (a':=?_) #[T,T,F,T,T,F,T,T,F,F,F,F,F,F,F,F,F,F,F,F,F] rfl rfl (any_of HT_.out (by kernel_rfl)) (fun _ _ _ h => h) (Or.inl ⟨by rfl,?_⟩) ?_ ?_
         rotate_left
         ·intro w'
          go_simp
          with_reducible rfl
         rotate_left
         ·simp only [Act.put,setIfInBounds_toArray,set_cons_zero,set_cons_succ,i64_w,i32_w]
          rfl
         refine pure_ (i:=9) (N:=some 24) (v:=?_) (a':=?_) #[T,T,F,T,T,F,T,T,F,T,F,F,F,F,F,F,F,F,F,F,F] rfl rfl (any_of HT_.out (by kernel_rfl)) (fun _ _ _ h => h) (Or.inl ⟨by rfl,?_⟩) ?_ ?_
         rotate_left
         ·intro w'
          go_simp
          with_reducible rfl
         rotate_left
         ·simp only [Act.put,setIfInBounds_toArray,set_cons_zero,set_cons_succ,i64_w,i32_w]
          rfl
         refine pure_ (i:=10) (N:=some 25) (v:=?_) (a':=?_) #[T,T,F,T,T,F,T,T,F,T,T,F,F,F,F,F,F,F,F,F,F] rfl rfl (any_of HT_.out (by kernel_rfl)) (fun _ _ _ h => h) (Or.inl ⟨by rfl,?_⟩) ?_ ?_
         rotate_left
         ·intro w'
          go_simp
          with_reducible rfl
         rotate_left
         ·simp only [Act.put,setIfInBounds_toArray,set_cons_zero,set_cons_succ,i64_w,i32_w]
          rfl
         refine pure_ (i:=12) (N:=some 27) (v:=?_) (a':=?_) #[T,T,F,T,T,F,T,T,F,T,T,F,T,F,F,F,F,F,F,F,F] rfl rfl (any_of HT_.out (by kernel_rfl)) (fun _ _ _ h => h) (Or.inl ⟨by rfl,?_⟩) ?_ ?_
         rotate_left
         ·intro w'
          go_simp
          with_reducible rfl
         rotate_left
         ·simp only [Act.put,setIfInBounds_toArray,set_cons_zero,set_cons_succ,i64_w,i32_w]
          rfl
         refine pure_ (i:=13) (N:=some 28) (v:=?_) (a':=?_) #[T,T,F,T,T,F,T,T,F,T,T,F,T,T,F,F,F,F,F,F,F] rfl rfl (any_of HT_.out (by kernel_rfl)) (fun _ _ _ h => h) (Or.inl ⟨by rfl,?_⟩) ?_ ?_
         rotate_left
         ·intro w'
          go_simp
          with_reducible rfl
         rotate_left
         ·simp only [Act.put,setIfInBounds_toArray,set_cons_zero,set_cons_succ,i64_w,i32_w]
          rfl
         refine pure_ (i:=15) (N:=some 30) (v:=?_) (a':=?_) #[T,T,F,T,T,F,T,T,F,T,T,F,T,T,F,T,F,F,F,F,F] rfl rfl (any_of HT_.out (by kernel_rfl)) (fun _ _ _ h => h) (Or.inl ⟨by rfl,?_⟩) ?_ ?_
         rotate_left
         ·intro w'
          go_simp
          with_reducible rfl
         rotate_left
         ·simp only [Act.put,setIfInBounds_toArray,set_cons_zero,set_cons_succ,i64_w,i32_w]
          rfl
         refine pure_ (i:=16) (N:=some 31) (v:=?_) (a':=?_) #[T,T,F,T,T,F,T,T,F,T,T,F,T,T,F,T,T,F,F,F,F] rfl rfl (any_of HT_.out (by kernel_rfl)) (fun _ _ _ h => h) (Or.inl ⟨by rfl,?_⟩) ?_ ?_
         rotate_left
         ·intro w'
          go_simp
          with_reducible rfl
         rotate_left
         ·simp only [Act.put,setIfInBounds_toArray,set_cons_zero,set_cons_succ,i64_w,i32_w]
          rfl
         refine take_ (i:=2) (N:=some 17) (v:=?_) (a':=?_) #[T,T,T,T,T,F,T,T,F,T,T,F,T,T,F,T,T,F,F,F,F] rfl rfl (take_ofW HT_.out HW_.out (by kernel_rfl)) (fun _ _ _ h => h) (Or.inl ⟨by rfl,?_⟩) hHeld ?_ ?_
         rotate_left
         ·rintro w' ⟨s0,s1,s2,s3,s4,s5⟩
          go_simp
          with_reducible rfl
         rotate_left
         ·simp only [Act.put,setIfInBounds_toArray,set_cons_zero,set_cons_succ,i64_w,i32_w]
          rfl
         refine take_ (i:=5) (N:=some 20) (v:=?_) (a':=?_) #[T,T,T,T,T,T,T,T,F,T,T,F,T,T,F,T,T,F,F,F,F] rfl rfl (take_ofW HT_.out HW_.out (by kernel_rfl)) (fun _ _ _ h => h) (Or.inl ⟨by rfl,?_⟩) hHeld ?_ ?_
         rotate_left
         ·rintro w' ⟨s0,s1,s2,s3,s4,s5⟩
          go_simp
          with_reducible rfl
         rotate_left
         ·simp only [Act.put,setIfInBounds_toArray,set_cons_zero,set_cons_succ,i64_w,i32_w]
          rfl
         refine take_ (i:=8) (N:=some 23) (v:=?_) (a':=?_) #[T,T,T,T,T,T,T,T,T,T,T,F,T,T,F,T,T,F,F,F,F] rfl rfl (take_ofW HT_.out HW_.out (by kernel_rfl)) (fun _ _ _ h => h) (Or.inl ⟨by rfl,?_⟩) hHeld ?_ ?_
         rotate_left
         ·rintro w' ⟨s0,s1,s2,s3,s4,s5⟩
          go_simp
          with_reducible rfl
         rotate_left
         ·simp only [Act.put,setIfInBounds_toArray,set_cons_zero,set_cons_succ,i64_w,i32_w]
          rfl
         refine take_ (i:=11) (N:=some 26) (v:=?_) (a':=?_) #[T,T,T,T,T,T,T,T,T,T,T,T,T,T,F,T,T,F,F,F,F] rfl rfl (take_ofW HT_.out HW_.out (by kernel_rfl)) (fun _ _ _ h => h) (Or.inl ⟨by rfl,?_⟩) hHeld ?_ ?_
         rotate_left
         ·rintro w' ⟨s0,s1,s2,s3,s4,s5⟩
          go_simp
          with_reducible rfl
         rotate_left
         ·simp only [Act.put,setIfInBounds_toArray,set_cons_zero,set_cons_succ,i64_w,i32_w]
          rfl
         refine take_ (i:=14) (N:=some 29) (v:=?_) (a':=?_) #[T,T,T,T,T,T,T,T,T,T,T,T,T,T,T,T,T,F,F,F,F] rfl rfl (take_ofW HT_.out HW_.out (by kernel_rfl)) (fun _ _ _ h => h) (Or.inl ⟨by rfl,?_⟩) hHeld ?_ ?_
         rotate_left
         ·rintro w' ⟨s0,s1,s2,s3,s4,s5⟩
          go_simp
          with_reducible rfl
         rotate_left
         ·simp only [Act.put,setIfInBounds_toArray,set_cons_zero,set_cons_succ,i64_w,i32_w]
          rfl
         refine take_ (i:=17) (N:=some 32) (v:=?_) (a':=?_) #[T,T,T,T,T,T,T,T,T,T,T,T,T,T,T,T,T,T,F,F,F] rfl rfl (take_ofW HT_.out HW_.out (by kernel_rfl)) (fun _ _ _ h => h) (Or.inl ⟨by rfl,?_⟩) hHeld ?_ ?_
         rotate_left
         ·rintro w' ⟨s0,s1,s2,s3,s4,s5⟩
          go_simp
          with_reducible rfl
         rotate_left
         ·simp only [Act.put,setIfInBounds_toArray,set_cons_zero,set_cons_succ,i64_w,i32_w]
          rfl
         refine pure_ (i:=18) (N:=some 33) (v:=?_) (a':=?_) #[T,T,T,T,T,T,T,T,T,T,T,T,T,T,T,T,T,T,T,F,F] rfl rfl (any_of HT_.out (by kernel_rfl)) (fun _ _ _ h => h) (Or.inl ⟨by rfl,?_⟩) ?_ ?_
         rotate_left
         ·intro w'
          go_simp
          with_reducible rfl
         rotate_left
         ·simp only [Act.put,setIfInBounds_toArray,set_cons_zero,set_cons_succ,i64_w,i32_w]
          rfl
         refine one_ (i:=19) (N:=some 6) #[T,T,T,T,T,T,T,T,T,T,T,T,T,T,T,T,T,T,T,T,F] rfl rfl (one_of HT_.out (by kernel_rfl)) (by decide) (fun K hK => ?_)
         refine box_step ?hg (N:=6) ?hd (cs := #[.int .i64 0,.int .i64 0,.int .i64 0,.int .i64 0,.int .i64 0,.int .i64 0]) (t:=38) ?hr ?_; (case hd => rfl); (case hg => rfl); (case hr => first | (go_simp; done) | (go_simp; rfl))
         intro gb155 hg w32 hbox hb
         have HS0_ := (hb.cell (bl_ _ _ (hHeld.1))).trans (hHeld.1)
         have HS1_ := (hb.cell (bl_ _ _ (hHeld.2.1))).trans (hHeld.2.1)
         have HS2_ := (hb.cell (bl_ _ _ (hHeld.2.2.1))).trans (hHeld.2.2.1)
         have HS3_ := (hb.cell (bl_ _ _ (hHeld.2.2.2.1))).trans (hHeld.2.2.2.1)
         have HS4_ := (hb.cell (bl_ _ _ (hHeld.2.2.2.2.1))).trans (hHeld.2.2.2.2.1)
         have HS5_ := (hb.cell (bl_ _ _ (hHeld.2.2.2.2.2))).trans (hHeld.2.2.2.2.2)
         have n0_ := Aside0.mk (Kd.R_below (by (with_reducible repeat (first | apply Kd.R_alloc | apply Kd.R_drewN | apply Kd.R_drew)); exact HO148.out) hb)
         have n1_ := Aside0.mk (blk_below (g:=gb144) (o:=.cells #[.int .i64 0,.int .i64 0,.int .i64 0,.int .i64 0,.int .i64 0,.int .i64 0] 38 (0,0)) (by (with_reducible repeat (first | refine blk_drewN ?_ _ | refine blk_drew ?_ | refine blk_alloc ?_ _)); exact BK144.out) hb)
         have n2_ := Aside0.mk (below_step (by repeat (first | (with_reducible first | exact HB.out | apply below_alloc | apply pw_below_drewN | apply below_drew1 | refine below_set ?_ GE144.out) | exact HB.out)) hb)
         have n3_ := Aside0.mk (hbox)
         have n4_ := Aside0.mk ((by rw [hg]; exact (below_size (by repeat (first | (with_reducible first | exact HB.out | apply below_alloc | apply pw_below_drewN | apply below_drew1 | refine below_set ?_ GE144.out) | exact HB.out))) : w.heap.size ≤ gb155))
         have n5_ := Aside0.mk ((by rw [hg]; exact (below_size (by repeat (first | (with_reducible first | exact HB.out | apply below_alloc | apply pw_below_drewN | apply below_drew1 | refine below_set ?_ GE144.out) | exact HB.out))) : w.heap.size ≤ gb155))
         have n6_ := Aside0.mk ((by rw [hg]; exact Nat.ne_of_lt (blk_lt (g:=gb144) (o:=.cells #[.int .i64 0,.int .i64 0,.int .i64 0,.int .i64 0,.int .i64 0,.int .i64 0] 38 (0,0)) (by (with_reducible repeat (first | refine blk_drewN ?_ _ | refine blk_drew ?_ | refine blk_alloc ?_ _)); exact BK144.out)) : gb144 ≠ gb155))
         have n7_ := Aside0.mk ((by rw [hg]; exact Nat.ne_of_gt (blk_lt (g:=gb144) (o:=.cells #[.int .i64 0,.int .i64 0,.int .i64 0,.int .i64 0,.int .i64 0,.int .i64 0] 38 (0,0)) (by (with_reducible repeat (first | refine blk_drewN ?_ _ | refine blk_drew ?_ | refine blk_alloc ?_ _)); exact BK144.out)) : gb155 ≠ gb144))
         clear HO148
         clear BK144
         clear HB
         have HO148 := n0_
         have BK144 := n1_
         have HB := n2_
         have BK155 := n3_
         have GW155 := n4_
         have GE155 := n5_
         have NB144_155 := n6_
         have NB155_144 := n7_
         clear n0_ n1_ n2_ n3_ n4_ n5_ n6_ n7_
         clear hb hbox hg
         refine hK.out _ _ ⟨HS0_,HS1_,HS2_,HS3_,HS4_,HS5_⟩ (fun hHeld => ?_)
         clear hK K
         refine norm_ (a':=?_) ?_ ?_
         rotate_left
         ·show Act.put _ (some 6) _ = _
          simp only [Act.put,setIfInBounds_toArray,set_cons_zero,set_cons_succ,i64_w,i32_w]
          rfl
         refine one_ (i:=20) (N:=none) #[T,T,T,T,T,T,T,T,T,T,T,T,T,T,T,T,T,T,T,T,T] rfl rfl (one_of HT_.out (by kernel_rfl)) (by decide) (fun K hK => ?_)
         have hs33 : w32.cell? ⟨gb155,0,none⟩ = some (.int .i64 0) := (blk_cell BK155.out 0).trans rfl
         have hfs33 := blk_frozen BK155.out 0
         have hns33_0 := NB144_155.out
         have hms33_0 := NB155_144.out
         have hs34 : w32.cell? ⟨gb155,1,none⟩ = some (.int .i64 0) := (blk_cell BK155.out 1).trans rfl
         have hfs34 := blk_frozen BK155.out 1
         have hns34_0 := NB144_155.out
         have hms34_0 := NB155_144.out
         have hs35 : w32.cell? ⟨gb155,2,none⟩ = some (.int .i64 0) := (blk_cell BK155.out 2).trans rfl
         have hfs35 := blk_frozen BK155.out 2
         have hns35_0 := NB144_155.out
         have hms35_0 := NB155_144.out
         have hs36 : w32.cell? ⟨gb155,3,none⟩ = some (.int .i64 0) := (blk_cell BK155.out 3).trans rfl
         have hfs36 := blk_frozen BK155.out 3
         have hns36_0 := NB144_155.out
         have hms36_0 := NB155_144.out
         have hs37 : w32.cell? ⟨gb155,4,none⟩ = some (.int .i64 0) := (blk_cell BK155.out 4).trans rfl
         have hfs37 := blk_frozen BK155.out 4
         have hns37_0 := NB144_155.out
         have hms37_0 := NB155_144.out
         have hs38 : w32.cell? ⟨gb155,5,none⟩ = some (.int .i64 0) := (blk_cell BK155.out 5).trans rfl
         have hfs38 := blk_frozen BK155.out 5
         have hns38_0 := NB144_155.out
         have hms38_0 := NB155_144.out
         refine skip_ (w1 := ?_) (by rfl) rfl ?_ ?_
         rotate_left
         ·go_simp
          rfl
         refine hK.out _ _ ⟨((cell_far (p:=⟨gb155,_,none⟩) (by first | exact Kd.own_blk (Kd.R_ne HO148.out BK155.out (by decide)) | (rw [add_block]; exact Kd.own_blk (Kd.R_ne HO148.out BK155.out (by decide))) | (show (Addr.add _ _).block ≠ _; rw [add_block]; exact Kd.own_blk (Kd.R_ne HO148.out BK155.out (by decide))) | (dsimp only; exact Kd.own_blk (Kd.R_ne HO148.out BK155.out (by decide)))) _).trans (((cell_far (p:=⟨gb155,_,none⟩) (by first | exact Kd.own_blk (Kd.R_ne HO148.out BK155.out (by decide)) | (rw [add_block]; exact Kd.own_blk (Kd.R_ne HO148.out BK155.out (by decide))) | (show (Addr.add _ _).block ≠ _; rw [add_block]; exact Kd.own_blk (Kd.R_ne HO148.out BK155.out (by decide))) | (dsimp only; exact Kd.own_blk (Kd.R_ne HO148.out BK155.out (by decide)))) _).trans (((cell_far (p:=⟨gb155,_,none⟩) (by first | exact Kd.own_blk (Kd.R_ne HO148.out BK155.out (by decide)) | (rw [add_block]; exact Kd.own_blk (Kd.R_ne HO148.out BK155.out (by decide))) | (show (Addr.add _ _).block ≠ _; rw [add_block]; exact Kd.own_blk (Kd.R_ne HO148.out BK155.out (by decide))) | (dsimp only; exact Kd.own_blk (Kd.R_ne HO148.out BK155.out (by decide)))) _).trans (((cell_far (p:=⟨gb155,_,none⟩) (by first | exact Kd.own_blk (Kd.R_ne HO148.out BK155.out (by decide)) | (rw [add_block]; exact Kd.own_blk (Kd.R_ne HO148.out BK155.out (by decide))) | (show (Addr.add _ _).block ≠ _; rw [add_block]; exact Kd.own_blk (Kd.R_ne HO148.out BK155.out (by decide))) | (dsimp only; exact Kd.own_blk (Kd.R_ne HO148.out BK155.out (by decide)))) _).trans (((cell_far (p:=⟨gb155,_,none⟩) (by first | exact Kd.own_blk (Kd.R_ne HO148.out BK155.out (by decide)) | (rw [add_block]; exact Kd.own_blk (Kd.R_ne HO148.out BK155.out (by decide))) | (show (Addr.add _ _).block ≠ _; rw [add_block]; exact Kd.own_blk (Kd.R_ne HO148.out BK155.out (by decide))) | (dsimp only; exact Kd.own_blk (Kd.R_ne HO148.out BK155.out (by decide)))) _).trans (((cell_far (p:=⟨gb155,_,none⟩) (by first | exact Kd.own_blk (Kd.R_ne HO148.out BK155.out (by decide)) | (rw [add_block]; exact Kd.own_blk (Kd.R_ne HO148.out BK155.out (by decide))) | (show (Addr.add _ _).block ≠ _; rw [add_block]; exact Kd.own_blk (Kd.R_ne HO148.out BK155.out (by decide))) | (dsimp only; exact Kd.own_blk (Kd.R_ne HO148.out BK155.out (by decide)))) _).trans (hHeld.1)))))))))))),((cell_far (p:=⟨gb155,_,none⟩) (by first | exact Kd.own_blk (Kd.R_ne HO148.out BK155.out (by decide)) | (rw [add_block]; exact Kd.own_blk (Kd.R_ne HO148.out BK155.out (by decide))) | (show (Addr.add _ _).block ≠ _; rw [add_block]; exact Kd.own_blk (Kd.R_ne HO148.out BK155.out (by decide))) | (dsimp only; exact Kd.own_blk (Kd.R_ne HO148.out BK155.out (by decide)))) _).trans (((cell_far (p:=⟨gb155,_,none⟩) (by first | exact Kd.own_blk (Kd.R_ne HO148.out BK155.out (by decide)) | (rw [add_block]; exact Kd.own_blk (Kd.R_ne HO148.out BK155.out (by decide))) | (show (Addr.add _ _).block ≠ _; rw [add_block]; exact Kd.own_blk (Kd.R_ne HO148.out BK155.out (by decide))) | (dsimp only; exact Kd.own_blk (Kd.R_ne HO148.out BK155.out (by decide)))) _).trans (((cell_far (p:=⟨gb155,_,none⟩) (by first | exact Kd.own_blk (Kd.R_ne HO148.out BK155.out (by decide)) | (rw [add_block]; exact Kd.own_blk (Kd.R_ne HO148.out BK155.out (by decide))) | (show (Addr.add _ _).block ≠ _; rw [add_block]; exact Kd.own_blk (Kd.R_ne HO148.out BK155.out (by decide))) | (dsimp only; exact Kd.own_blk (Kd.R_ne HO148.out BK155.out (by decide)))) _).trans (((cell_far (p:=⟨gb155,_,none⟩) (by first | exact Kd.own_blk (Kd.R_ne HO148.out BK155.out (by decide)) | (rw [add_block]; exact Kd.own_blk (Kd.R_ne HO148.out BK155.out (by decide))) | (show (Addr.add _ _).block ≠ _; rw [add_block]; exact Kd.own_blk (Kd.R_ne HO148.out BK155.out (by decide))) | (dsimp only; exact Kd.own_blk (Kd.R_ne HO148.out BK155.out (by decide)))) _).trans (((cell_far (p:=⟨gb155,_,none⟩) (by first | exact Kd.own_blk (Kd.R_ne HO148.out BK155.out (by decide)) | (rw [add_block]; exact Kd.own_blk (Kd.R_ne HO148.out BK155.out (by decide))) | (show (Addr.add _ _).block ≠ _; rw [add_block]; exact Kd.own_blk (Kd.R_ne HO148.out BK155.out (by decide))) | (dsimp only; exact Kd.own_blk (Kd.R_ne HO148.out BK155.out (by decide)))) _).trans (((cell_far (p:=⟨gb155,_,none⟩) (by first | exact Kd.own_blk (Kd.R_ne HO148.out BK155.out (by decide)) | (rw [add_block]; exact Kd.own_blk (Kd.R_ne HO148.out BK155.out (by decide))) | (show (Addr.add _ _).block ≠ _; rw [add_block]; exact Kd.own_blk (Kd.R_ne HO148.out BK155.out (by decide))) | (dsimp only; exact Kd.own_blk (Kd.R_ne HO148.out BK155.out (by decide)))) _).trans (hHeld.2.1)))))))))))),((cell_far (p:=⟨gb155,_,none⟩) (by first | exact Kd.own_blk (Kd.R_ne HO148.out BK155.out (by decide)) | (rw [add_block]; exact Kd.own_blk (Kd.R_ne HO148.out BK155.out (by decide))) | (show (Addr.add _ _).block ≠ _; rw [add_block]; exact Kd.own_blk (Kd.R_ne HO148.out BK155.out (by decide))) | (dsimp only; exact Kd.own_blk (Kd.R_ne HO148.out BK155.out (by decide)))) _).trans (((cell_far (p:=⟨gb155,_,none⟩) (by first | exact Kd.own_blk (Kd.R_ne HO148.out BK155.out (by decide)) | (rw [add_block]; exact Kd.own_blk (Kd.R_ne HO148.out BK155.out (by decide))) | (show (Addr.add _ _).block ≠ _; rw [add_block]; exact Kd.own_blk (Kd.R_ne HO148.out BK155.out (by decide))) | (dsimp only; exact Kd.own_blk (Kd.R_ne HO148.out BK155.out (by decide)))) _).trans (((cell_far (p:=⟨gb155,_,none⟩) (by first | exact Kd.own_blk (Kd.R_ne HO148.out BK155.out (by decide)) | (rw [add_block]; exact Kd.own_blk (Kd.R_ne HO148.out BK155.out (by decide))) | (show (Addr.add _ _).block ≠ _; rw [add_block]; exact Kd.own_blk (Kd.R_ne HO148.out BK155.out (by decide))) | (dsimp only; exact Kd.own_blk (Kd.R_ne HO148.out BK155.out (by decide)))) _).trans (((cell_far (p:=⟨gb155,_,none⟩) (by first | exact Kd.own_blk (Kd.R_ne HO148.out BK155.out (by decide)) | (rw [add_block]; exact Kd.own_blk (Kd.R_ne HO148.out BK155.out (by decide))) | (show (Addr.add _ _).block ≠ _; rw [add_block]; exact Kd.own_blk (Kd.R_ne HO148.out BK155.out (by decide))) | (dsimp only; exact Kd.own_blk (Kd.R_ne HO148.out BK155.out (by decide)))) _).trans (((cell_far (p:=⟨gb155,_,none⟩) (by first | exact Kd.own_blk (Kd.R_ne HO148.out BK155.out (by decide)) | (rw [add_block]; exact Kd.own_blk (Kd.R_ne HO148.out BK155.out (by decide))) | (show (Addr.add _ _).block ≠ _; rw [add_block]; exact Kd.own_blk (Kd.R_ne HO148.out BK155.out (by decide))) | (dsimp only; exact Kd.own_blk (Kd.R_ne HO148.out BK155.out (by decide)))) _).trans (((cell_far (p:=⟨gb155,_,none⟩) (by first | exact Kd.own_blk (Kd.R_ne HO148.out BK155.out (by decide)) | (rw [add_block]; exact Kd.own_blk (Kd.R_ne HO148.out BK155.out (by decide))) | (show (Addr.add _ _).block ≠ _; rw [add_block]; exact Kd.own_blk (Kd.R_ne HO148.out BK155.out (by decide))) | (dsimp only; exact Kd.own_blk (Kd.R_ne HO148.out BK155.out (by decide)))) _).trans (hHeld.2.2.1)))))))))))),((cell_far (p:=⟨gb155,_,none⟩) (by first | exact Kd.own_blk (Kd.R_ne HO148.out BK155.out (by decide)) | (rw [add_block]; exact Kd.own_blk (Kd.R_ne HO148.out BK155.out (by decide))) | (show (Addr.add _ _).block ≠ _; rw [add_block]; exact Kd.own_blk (Kd.R_ne HO148.out BK155.out (by decide))) | (dsimp only; exact Kd.own_blk (Kd.R_ne HO148.out BK155.out (by decide)))) _).trans (((cell_far (p:=⟨gb155,_,none⟩) (by first | exact Kd.own_blk (Kd.R_ne HO148.out BK155.out (by decide)) | (rw [add_block]; exact Kd.own_blk (Kd.R_ne HO148.out BK155.out (by decide))) | (show (Addr.add _ _).block ≠ _; rw [add_block]; exact Kd.own_blk (Kd.R_ne HO148.out BK155.out (by decide))) | (dsimp only; exact Kd.own_blk (Kd.R_ne HO148.out BK155.out (by decide)))) _).trans (((cell_far (p:=⟨gb155,_,none⟩) (by first | exact Kd.own_blk (Kd.R_ne HO148.out BK155.out (by decide)) | (rw [add_block]; exact Kd.own_blk (Kd.R_ne HO148.out BK155.out (by decide))) | (show (Addr.add _ _).block ≠ _; rw [add_block]; exact Kd.own_blk (Kd.R_ne HO148.out BK155.out (by decide))) | (dsimp only; exact Kd.own_blk (Kd.R_ne HO148.out BK155.out (by decide)))) _).trans (((cell_far (p:=⟨gb155,_,none⟩) (by first | exact Kd.own_blk (Kd.R_ne HO148.out BK155.out (by decide)) | (rw [add_block]; exact Kd.own_blk (Kd.R_ne HO148.out BK155.out (by decide))) | (show (Addr.add _ _).block ≠ _; rw [add_block]; exact Kd.own_blk (Kd.R_ne HO148.out BK155.out (by decide))) | (dsimp only; exact Kd.own_blk (Kd.R_ne HO148.out BK155.out (by decide)))) _).trans (((cell_far (p:=⟨gb155,_,none⟩) (by first | exact Kd.own_blk (Kd.R_ne HO148.out BK155.out (by decide)) | (rw [add_block]; exact Kd.own_blk (Kd.R_ne HO148.out BK155.out (by decide))) | (show (Addr.add _ _).block ≠ _; rw [add_block]; exact Kd.own_blk (Kd.R_ne HO148.out BK155.out (by decide))) | (dsimp only; exact Kd.own_blk (Kd.R_ne HO148.out BK155.out (by decide)))) _).trans (((cell_far (p:=⟨gb155,_,none⟩) (by first | exact Kd.own_blk (Kd.R_ne HO148.out BK155.out (by decide)) | (rw [add_block]; exact Kd.own_blk (Kd.R_ne HO148.out BK155.out (by decide))) | (show (Addr.add _ _).block ≠ _; rw [add_block]; exact Kd.own_blk (Kd.R_ne HO148.out BK155.out (by decide))) | (dsimp only; exact Kd.own_blk (Kd.R_ne HO148.out BK155.out (by decide)))) _).trans (hHeld.2.2.2.1)))))))))))),((cell_far (p:=⟨gb155,_,none⟩) (by first | exact Kd.own_blk (Kd.R_ne HO148.out BK155.out (by decide)) | (rw [add_block]; exact Kd.own_blk (Kd.R_ne HO148.out BK155.out (by decide))) | (show (Addr.add _ _).block ≠ _; rw [add_block]; exact Kd.own_blk (Kd.R_ne HO148.out BK155.out (by decide))) | (dsimp only; exact Kd.own_blk (Kd.R_ne HO148.out BK155.out (by decide)))) _).trans (((cell_far (p:=⟨gb155,_,none⟩) (by first | exact Kd.own_blk (Kd.R_ne HO148.out BK155.out (by decide)) | (rw [add_block]; exact Kd.own_blk (Kd.R_ne HO148.out BK155.out (by decide))) | (show (Addr.add _ _).block ≠ _; rw [add_block]; exact Kd.own_blk (Kd.R_ne HO148.out BK155.out (by decide))) | (dsimp only; exact Kd.own_blk (Kd.R_ne HO148.out BK155.out (by decide)))) _).trans (((cell_far (p:=⟨gb155,_,none⟩) (by first | exact Kd.own_blk (Kd.R_ne HO148.out BK155.out (by decide)) | (rw [add_block]; exact Kd.own_blk (Kd.R_ne HO148.out BK155.out (by decide))) | (show (Addr.add _ _).block ≠ _; rw [add_block]; exact Kd.own_blk (Kd.R_ne HO148.out BK155.out (by decide))) | (dsimp only; exact Kd.own_blk (Kd.R_ne HO148.out BK155.out (by decide)))) _).trans (((cell_far (p:=⟨gb155,_,none⟩) (by first | exact Kd.own_blk (Kd.R_ne HO148.out BK155.out (by decide)) | (rw [add_block]; exact Kd.own_blk (Kd.R_ne HO148.out BK155.out (by decide))) | (show (Addr.add _ _).block ≠ _; rw [add_block]; exact Kd.own_blk (Kd.R_ne HO148.out BK155.out (by decide))) | (dsimp only; exact Kd.own_blk (Kd.R_ne HO148.out BK155.out (by decide)))) _).trans (((cell_far (p:=⟨gb155,_,none⟩) (by first | exact Kd.own_blk (Kd.R_ne HO148.out BK155.out (by decide)) | (rw [add_block]; exact Kd.own_blk (Kd.R_ne HO148.out BK155.out (by decide))) | (show (Addr.add _ _).block ≠ _; rw [add_block]; exact Kd.own_blk (Kd.R_ne HO148.out BK155.out (by decide))) | (dsimp only; exact Kd.own_blk (Kd.R_ne HO148.out BK155.out (by decide)))) _).trans (((cell_far (p:=⟨gb155,_,none⟩) (by first | exact Kd.own_blk (Kd.R_ne HO148.out BK155.out (by decide)) | (rw [add_block]; exact Kd.own_blk (Kd.R_ne HO148.out BK155.out (by decide))) | (show (Addr.add _ _).block ≠ _; rw [add_block]; exact Kd.own_blk (Kd.R_ne HO148.out BK155.out (by decide))) | (dsimp only; exact Kd.own_blk (Kd.R_ne HO148.out BK155.out (by decide)))) _).trans (hHeld.2.2.2.2.1)))))))))))),((cell_far (p:=⟨gb155,_,none⟩) (by first | exact Kd.own_blk (Kd.R_ne HO148.out BK155.out (by decide)) | (rw [add_block]; exact Kd.own_blk (Kd.R_ne HO148.out BK155.out (by decide))) | (show (Addr.add _ _).block ≠ _; rw [add_block]; exact Kd.own_blk (Kd.R_ne HO148.out BK155.out (by decide))) | (dsimp only; exact Kd.own_blk (Kd.R_ne HO148.out BK155.out (by decide)))) _).trans (((cell_far (p:=⟨gb155,_,none⟩) (by first | exact Kd.own_blk (Kd.R_ne HO148.out BK155.out (by decide)) | (rw [add_block]; exact Kd.own_blk (Kd.R_ne HO148.out BK155.out (by decide))) | (show (Addr.add _ _).block ≠ _; rw [add_block]; exact Kd.own_blk (Kd.R_ne HO148.out BK155.out (by decide))) | (dsimp only; exact Kd.own_blk (Kd.R_ne HO148.out BK155.out (by decide)))) _).trans (((cell_far (p:=⟨gb155,_,none⟩) (by first | exact Kd.own_blk (Kd.R_ne HO148.out BK155.out (by decide)) | (rw [add_block]; exact Kd.own_blk (Kd.R_ne HO148.out BK155.out (by decide))) | (show (Addr.add _ _).block ≠ _; rw [add_block]; exact Kd.own_blk (Kd.R_ne HO148.out BK155.out (by decide))) | (dsimp only; exact Kd.own_blk (Kd.R_ne HO148.out BK155.out (by decide)))) _).trans (((cell_far (p:=⟨gb155,_,none⟩) (by first | exact Kd.own_blk (Kd.R_ne HO148.out BK155.out (by decide)) | (rw [add_block]; exact Kd.own_blk (Kd.R_ne HO148.out BK155.out (by decide))) | (show (Addr.add _ _).block ≠ _; rw [add_block]; exact Kd.own_blk (Kd.R_ne HO148.out BK155.out (by decide))) | (dsimp only; exact Kd.own_blk (Kd.R_ne HO148.out BK155.out (by decide)))) _).trans (((cell_far (p:=⟨gb155,_,none⟩) (by first | exact Kd.own_blk (Kd.R_ne HO148.out BK155.out (by decide)) | (rw [add_block]; exact Kd.own_blk (Kd.R_ne HO148.out BK155.out (by decide))) | (show (Addr.add _ _).block ≠ _; rw [add_block]; exact Kd.own_blk (Kd.R_ne HO148.out BK155.out (by decide))) | (dsimp only; exact Kd.own_blk (Kd.R_ne HO148.out BK155.out (by decide)))) _).trans (((cell_far (p:=⟨gb155,_,none⟩) (by first | exact Kd.own_blk (Kd.R_ne HO148.out BK155.out (by decide)) | (rw [add_block]; exact Kd.own_blk (Kd.R_ne HO148.out BK155.out (by decide))) | (show (Addr.add _ _).block ≠ _; rw [add_block]; exact Kd.own_blk (Kd.R_ne HO148.out BK155.out (by decide))) | (dsimp only; exact Kd.own_blk (Kd.R_ne HO148.out BK155.out (by decide)))) _).trans (hHeld.2.2.2.2.2))))))))))))⟩ (fun hHeld => ?_)
         clear hK K
         refine done_ (done_of HT_.out (by kernel_rfl)) ?_
         have hnb39 := NB155_144.out
         have hnc39 := NB144_155.out
         have hcz40_0 : w32.cell? ⟨gb155,0,none⟩ = some (.int .i64 0) := (blk_cell BK155.out 0).trans rfl
         have hcz40_1 : w32.cell? ⟨gb155,1,none⟩ = some (.int .i64 0) := (blk_cell BK155.out 1).trans rfl
         have hcz40_2 : w32.cell? ⟨gb155,2,none⟩ = some (.int .i64 0) := (blk_cell BK155.out 2).trans rfl
         have hcz40_3 : w32.cell? ⟨gb155,3,none⟩ = some (.int .i64 0) := (blk_cell BK155.out 3).trans rfl
         have hcz40_4 : w32.cell? ⟨gb155,4,none⟩ = some (.int .i64 0) := (blk_cell BK155.out 4).trans rfl
         have hcz40_5 : w32.cell? ⟨gb155,5,none⟩ = some (.int .i64 0) := (blk_cell BK155.out 5).trans rfl
         have hfz40_0 := blk_frozen BK155.out 0
         have hfz40_1 := blk_frozen BK155.out 1
         have hfz40_2 := blk_frozen BK155.out 2
         have hfz40_3 := blk_frozen BK155.out 3
         have hfz40_4 := blk_frozen BK155.out 4
         have hfz40_5 := blk_frozen BK155.out 5
         try go_wp2_with (first | ((with_reducible refine gate_callee (f:=101) rfl ?_); refine goesL_ (some 35) rfl rfl Tryd.func101 (by kernel_rfl) rfl #[.agg #[.int .i64 (rd t145 0),.int .i64 (rd t145 1),.int .i64 (rd t145 2),.int .i64 (rd t145 3),.int .i64 (rd t145 4),.int .i64 (rd t145 5)]] rfl (by (try simp only [List.map_toArray,List.map_cons,List.map_nil]); first | done | rfl | (simp only [List.length_drop,List.length_take]; rfl)) ?_; (with_reducible refine (spec_AggOK.calls (rd t145 0) (rd t145 1) (rd t145 2) (rd t145 3) (rd t145 4) (rd t145 5) false _ A10.out).mono ?_); rintro e w41 ⟨rfl,hb⟩; refine ⟨_,rfl,?_⟩; have n0_ := Aside0.mk (Kd.R_below (by (with_reducible repeat (first | apply Kd.R_alloc | apply Kd.R_drewN | apply Kd.R_drew)); exact (Kd.R_mono (Kd.R_far (p:=⟨gb155,5,none⟩) (Kd.R_far (p:=⟨gb155,4,none⟩) (Kd.R_far (p:=⟨gb155,3,none⟩) (Kd.R_far (p:=⟨gb155,2,none⟩) (Kd.R_far (p:=⟨gb155,1,none⟩) (Kd.R_far (p:=⟨gb155,0,none⟩) (Kd.R_types HO148.out BK155.out (by decide)) (fun _ hk => hk.2) (.int .i64 (rd t145 0))) (fun _ hk => hk.2) (.int .i64 (rd t145 1))) (fun _ hk => hk.2) (.int .i64 (rd t145 2))) (fun _ hk => hk.2) (.int .i64 (rd t145 3))) (fun _ hk => hk.2) (.int .i64 (rd t145 4))) (fun _ hk => hk.2) (.int .i64 (rd t145 5))) (fun _ h_ => h_.1))) hb); have n1_ := Aside0.mk (blk_below (g:=gb144) (o:=.cells #[.int .i64 0,.int .i64 0,.int .i64 0,.int .i64 0,.int .i64 0,.int .i64 0] 38 (0,0)) (by (with_reducible repeat (first | refine blk_drewN ?_ _ | refine blk_drew ?_ | refine blk_alloc ?_ _)); refine blk_far ?_ NB144_155.out _; (with_reducible repeat (first | refine blk_drewN ?_ _ | refine blk_drew ?_ | refine blk_alloc ?_ _)); refine blk_far ?_ NB144_155.out _; (with_reducible repeat (first | refine blk_drewN ?_ _ | refine blk_drew ?_ | refine blk_alloc ?_ _)); refine blk_far ?_ NB144_155.out _; (with_reducible repeat (first | refine blk_drewN ?_ _ | refine blk_drew ?_ | refine blk_alloc ?_ _)); refine blk_far ?_ NB144_155.out _; (with_reducible repeat (first | refine blk_drewN ?_ _ | refine blk_drew ?_ | refine blk_alloc ?_ _)); refine blk_far ?_ NB144_155.out _; (with_reducible repeat (first | refine blk_drewN ?_ _ | refine blk_drew ?_ | refine blk_alloc ?_ _)); refine blk_far ?_ NB144_155.out _; (with_reducible repeat (first | refine blk_drewN ?_ _ | refine blk_drew ?_ | refine blk_alloc ?_ _)); exact BK144.out) hb); have n2_ := Aside0.mk (blk_below (g:=gb155) (o:=.cells #[.int .i64 (rd t145 0),.int .i64 (rd t145 1),.int .i64 (rd t145 2),.int .i64 (rd t145 3),.int .i64 (rd t145 4),.int .i64 (rd t145 5)] 38 (0,0)) (by (with_reducible repeat (first | refine blk_drewN ?_ _ | refine blk_drew ?_ | refine blk_alloc ?_ _)); refine blk_put (cs := #[.int .i64 (rd t145 0),.int .i64 (rd t145 1),.int .i64 (rd t145 2),.int .i64 (rd t145 3),.int .i64 (rd t145 4),.int .i64 0]) ?_ 5 _ rfl; (with_reducible repeat (first | refine blk_drewN ?_ _ | refine blk_drew ?_ | refine blk_alloc ?_ _)); refine blk_put (cs := #[.int .i64 (rd t145 0),.int .i64 (rd t145 1),.int .i64 (rd t145 2),.int .i64 (rd t145 3),.int .i64 0,.int .i64 0]) ?_ 4 _ rfl; (with_reducible repeat (first | refine blk_drewN ?_ _ | refine blk_drew ?_ | refine blk_alloc ?_ _)); refine blk_put (cs := #[.int .i64 (rd t145 0),.int .i64 (rd t145 1),.int .i64 (rd t145 2),.int .i64 0,.int .i64 0,.int .i64 0]) ?_ 3 _ rfl; (with_reducible repeat (first | refine blk_drewN ?_ _ | refine blk_drew ?_ | refine blk_alloc ?_ _)); refine blk_put (cs := #[.int .i64 (rd t145 0),.int .i64 (rd t145 1),.int .i64 0,.int .i64 0,.int .i64 0,.int .i64 0]) ?_ 2 _ rfl; (with_reducible repeat (first | refine blk_drewN ?_ _ | refine blk_drew ?_ | refine blk_alloc ?_ _)); refine blk_put (cs := #[.int .i64 (rd t145 0),.int .i64 0,.int .i64 0,.int .i64 0,.int .i64 0,.int .i64 0]) ?_ 1 _ rfl; (with_reducible repeat (first | refine blk_drewN ?_ _ | refine blk_drew ?_ | refine blk_alloc ?_ _)); refine blk_put (cs := #[.int .i64 0,.int .i64 0,.int .i64 0,.int .i64 0,.int .i64 0,.int .i64 0]) ?_ 0 _ rfl; (with_reducible repeat (first | refine blk_drewN ?_ _ | refine blk_drew ?_ | refine blk_alloc ?_ _)); exact BK155.out) hb); have n3_ := Aside0.mk (below_step (by repeat (first | (with_reducible first | exact HB.out | apply below_alloc | apply pw_below_drewN | apply below_drew1 | refine below_set ?_ GE144.out | refine below_set ?_ GE155.out) | exact HB.out)) hb); clear HO148; clear BK144; clear BK155; clear HB; have HO148 := n0_; have BK144 := n1_; have BK155 := n2_; have HB := n3_; clear n0_ n1_ n2_ n3_; (try clear hb); (try clear hb2); (try clear hk); (try clear hi); have hcz42_0 : w41.cell? ⟨gb144,0,none⟩ = some (.int .i64 0) := (blk_cell BK144.out 0).trans rfl; have hcz42_1 : w41.cell? ⟨gb144,1,none⟩ = some (.int .i64 0) := (blk_cell BK144.out 1).trans rfl; have hcz42_2 : w41.cell? ⟨gb144,2,none⟩ = some (.int .i64 0) := (blk_cell BK144.out 2).trans rfl; have hcz42_3 : w41.cell? ⟨gb144,3,none⟩ = some (.int .i64 0) := (blk_cell BK144.out 3).trans rfl; have hcz42_4 : w41.cell? ⟨gb144,4,none⟩ = some (.int .i64 0) := (blk_cell BK144.out 4).trans rfl; have hcz42_5 : w41.cell? ⟨gb144,5,none⟩ = some (.int .i64 0) := (blk_cell BK144.out 5).trans rfl; have hfz42_0 := blk_frozen BK144.out 0; have hfz42_1 := blk_frozen BK144.out 1; have hfz42_2 := blk_frozen BK144.out 2; have hfz42_3 := blk_frozen BK144.out 3; have hfz42_4 := blk_frozen BK144.out 4; have hfz42_5 := blk_frozen BK144.out 5))
         refine bodyPost_ret (results_ct rfl _ _ gb144 38 #[.int .i64 0,.int .i64 0,.int .i64 0,.int .i64 0,.int .i64 0,.int .i64 0] (0,0) _ rfl (by (with_reducible repeat (first | refine blk_drewN ?_ _ | refine blk_drew ?_ | refine blk_alloc ?_ _)); refine blk_put (cs := #[.int .i64 0,.int .i64 0,.int .i64 0,.int .i64 0,.int .i64 0,.int .i64 0]) ?_ 5 _ rfl; (with_reducible repeat (first | refine blk_drewN ?_ _ | refine blk_drew ?_ | refine blk_alloc ?_ _)); refine blk_put (cs := #[.int .i64 0,.int .i64 0,.int .i64 0,.int .i64 0,.int .i64 0,.int .i64 0]) ?_ 4 _ rfl; (with_reducible repeat (first | refine blk_drewN ?_ _ | refine blk_drew ?_ | refine blk_alloc ?_ _)); refine blk_put (cs := #[.int .i64 0,.int .i64 0,.int .i64 0,.int .i64 0,.int .i64 0,.int .i64 0]) ?_ 3 _ rfl; (with_reducible repeat (first | refine blk_drewN ?_ _ | refine blk_drew ?_ | refine blk_alloc ?_ _)); refine blk_put (cs := #[.int .i64 0,.int .i64 0,.int .i64 0,.int .i64 0,.int .i64 0,.int .i64 0]) ?_ 2 _ rfl; (with_reducible repeat (first | refine blk_drewN ?_ _ | refine blk_drew ?_ | refine blk_alloc ?_ _)); refine blk_put (cs := #[.int .i64 0,.int .i64 0,.int .i64 0,.int .i64 0,.int .i64 0,.int .i64 0]) ?_ 1 _ rfl; (with_reducible repeat (first | refine blk_drewN ?_ _ | refine blk_drew ?_ | refine blk_alloc ?_ _)); refine blk_put (cs := #[.int .i64 0,.int .i64 0,.int .i64 0,.int .i64 0,.int .i64 0,.int .i64 0]) ?_ 0 _ rfl; (with_reducible repeat (first | refine blk_drewN ?_ _ | refine blk_drew ?_ | refine blk_alloc ?_ _)); exact BK144.out) Tryd.underlying38 rfl (by kernel_rfl)) rfl ?_
         exact ⟨by first | rfl | (simp [errW_none,errW_some] <;> rfl) | (simp [*,errW_none,errW_some] <;> rfl),by repeat (first | (with_reducible first | exact HB.out | apply below_alloc | apply pw_below_drewN | apply below_drew1 | refine below_set ?_ GE144.out | refine below_set ?_ GE155.out) | exact HB.out)⟩
       ·rw [if_neg c9] at H
        exact absurd H (by simp)
      ·rw [if_neg c8] at H
       exact absurd H (by simp)
     ·rw [if_neg c7] at H
      exact absurd H (by simp)
    ·rw [if_neg c6] at H
     exact absurd H (by simp)
   ·rw [if_neg c5] at H
    exact absurd H (by simp)
  ·rw [if_neg c4] at H
   exact absurd H (by simp)
 ·replace c3 := Bool.eq_false_iff.mpr c3
  subst c3
  have H1 : (some (0,0,0,0,0,0,false)) = some (r1,r2,r3,r4,r5,r6,r7) := by rw [if_neg (show ¬ (false = true) by decide)] at H; exact H
  clear H
  have H := H1
  clear H1
  simp only [Option.some.injEq,Prod.mk.injEq] at H
  obtain ⟨rfl,rfl,rfl,rfl,rfl,rfl,rfl⟩ := H
  go_enter Tryd.func66,Tryd.ntmps66
  go_wp2_with (first | ((with_reducible refine gate_dst (N:=2) rfl ?_); refine box_event ?hg (N:=2) ?hd (cs := #[.int .i64 0,.int .i64 0,.int .i64 0,.int .i64 0,.int .i64 0,.int .i64 0]) (t:=38) ?hr ?_; (case hd => rfl); (case hg => rfl); (case hr => first | (go_simp; done) | (go_simp; rfl)); intro gb144 hg w43 hbox hb; have n0_ := Aside0.mk (below_step (by repeat (first | (with_reducible first | exact HB.out | apply below_alloc | apply pw_below_drewN | apply below_drew1) | exact HB.out)) hb); have n1_ := Aside0.mk (hbox); have n2_ := Aside0.mk ((by rw [hg]; exact (below_size (by repeat (first | (with_reducible first | exact HB.out | apply below_alloc | apply pw_below_drewN | apply below_drew1) | exact HB.out))) : w.heap.size ≤ gb144)); have n3_ := Aside0.mk ((by rw [hg]; exact (below_size (by repeat (first | (with_reducible first | exact HB.out | apply below_alloc | apply pw_below_drewN | apply below_drew1) | exact HB.out))) : w.heap.size ≤ gb144)); clear HB; have HB := n0_; have BK144 := n1_; have GW144 := n2_; have GE144 := n3_; clear n0_ n1_ n2_ n3_; clear hb hbox hg) | ((with_reducible refine gate_callee (f:=100) rfl ?_); refine goesL_ (some 9) rfl rfl Tryd.func100 (by kernel_rfl) rfl #[.string a0,.int .u8 44,.int .i64 6] rfl (by (try simp only [List.map_toArray,List.map_cons,List.map_nil]); first | done | rfl | (simp only [List.length_drop,List.length_take]; rfl)) ?_; (with_reducible refine (spec_l02Numbers.calls k a0 44 6 t145 false _ A2.out).mono ?_); rintro e w44 ⟨v147,rfl,ho0,hb⟩; refine ⟨_,rfl,?_⟩; have n0_ := Aside0.mk (Kd.R_lower ho0 (below_size (by repeat (first | (with_reducible first | exact HB.out | apply below_alloc | apply pw_below_drewN | apply below_drew1 | refine below_set ?_ GE144.out) | exact HB.out)))); have n1_ := Aside0.mk (blk_below (g:=gb144) (o:=.cells #[.int .i64 0,.int .i64 0,.int .i64 0,.int .i64 0,.int .i64 0,.int .i64 0] 38 (0,0)) (by (with_reducible repeat (first | refine blk_drewN ?_ _ | refine blk_drew ?_ | refine blk_alloc ?_ _)); exact BK144.out) hb); have n2_ := Aside0.mk (below_step (by repeat (first | (with_reducible first | exact HB.out | apply below_alloc | apply pw_below_drewN | apply below_drew1 | refine below_set ?_ GE144.out) | exact HB.out)) hb); clear BK144; clear HB; have HO148 := n0_; have BK144 := n1_; have HB := n2_; clear n0_ n1_ n2_; (try clear hb); (try clear hb2); (try clear hk); (try clear hi); (try clear ho0); have hcz45_0 : w44.cell? ⟨gb144,0,none⟩ = some (.int .i64 0) := (blk_cell BK144.out 0).trans rfl; have hcz45_1 : w44.cell? ⟨gb144,1,none⟩ = some (.int .i64 0) := (blk_cell BK144.out 1).trans rfl; have hcz45_2 : w44.cell? ⟨gb144,2,none⟩ = some (.int .i64 0) := (blk_cell BK144.out 2).trans rfl; have hcz45_3 : w44.cell? ⟨gb144,3,none⟩ = some (.int .i64 0) := (blk_cell BK144.out 3).trans rfl; have hcz45_4 : w44.cell? ⟨gb144,4,none⟩ = some (.int .i64 0) := (blk_cell BK144.out 4).trans rfl; have hcz45_5 : w44.cell? ⟨gb144,5,none⟩ = some (.int .i64 0) := (blk_cell BK144.out 5).trans rfl; have hfz45_0 := blk_frozen BK144.out 0; have hfz45_1 := blk_frozen BK144.out 1; have hfz45_2 := blk_frozen BK144.out 2; have hfz45_3 := blk_frozen BK144.out 3; have hfz45_4 := blk_frozen BK144.out 4; have hfz45_5 := blk_frozen BK144.out 5))
  refine bodyPost_ret (results_ct rfl _ _ gb144 38 #[.int .i64 0,.int .i64 0,.int .i64 0,.int .i64 0,.int .i64 0,.int .i64 0] (0,0) _ rfl (by (with_reducible repeat (first | refine blk_drewN ?_ _ | refine blk_drew ?_ | refine blk_alloc ?_ _)); refine blk_put (cs := #[.int .i64 0,.int .i64 0,.int .i64 0,.int .i64 0,.int .i64 0,.int .i64 0]) ?_ 5 _ rfl; (with_reducible repeat (first | refine blk_drewN ?_ _ | refine blk_drew ?_ | refine blk_alloc ?_ _)); refine blk_put (cs := #[.int .i64 0,.int .i64 0,.int .i64 0,.int .i64 0,.int .i64 0,.int .i64 0]) ?_ 4 _ rfl; (with_reducible repeat (first | refine blk_drewN ?_ _ | refine blk_drew ?_ | refine blk_alloc ?_ _)); refine blk_put (cs := #[.int .i64 0,.int .i64 0,.int .i64 0,.int .i64 0,.int .i64 0,.int .i64 0]) ?_ 3 _ rfl; (with_reducible repeat (first | refine blk_drewN ?_ _ | refine blk_drew ?_ | refine blk_alloc ?_ _)); refine blk_put (cs := #[.int .i64 0,.int .i64 0,.int .i64 0,.int .i64 0,.int .i64 0,.int .i64 0]) ?_ 2 _ rfl; (with_reducible repeat (first | refine blk_drewN ?_ _ | refine blk_drew ?_ | refine blk_alloc ?_ _)); refine blk_put (cs := #[.int .i64 0,.int .i64 0,.int .i64 0,.int .i64 0,.int .i64 0,.int .i64 0]) ?_ 1 _ rfl; (with_reducible repeat (first | refine blk_drewN ?_ _ | refine blk_drew ?_ | refine blk_alloc ?_ _)); refine blk_put (cs := #[.int .i64 0,.int .i64 0,.int .i64 0,.int .i64 0,.int .i64 0,.int .i64 0]) ?_ 0 _ rfl; (with_reducible repeat (first | refine blk_drewN ?_ _ | refine blk_drew ?_ | refine blk_alloc ?_ _)); exact BK144.out) Tryd.underlying38 rfl (by kernel_rfl)) rfl ?_
  exact ⟨by first | rfl | (simp [errW_none,errW_some] <;> rfl) | (simp [*,errW_none,errW_some] <;> rfl),by repeat (first | (with_reducible first | exact HB.out | apply below_alloc | apply pw_below_drewN | apply below_drew1 | refine below_set ?_ GE144.out) | exact HB.out)⟩

end Go.Proofs.YtbdhpmamlibmhaaDoor.XFnExactReadBuckets
