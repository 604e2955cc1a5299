-- Printed by this session's own program wip/tools/xprint.py, which widens the kit's print. Not trusted: Lean checks it.
import Derived.Test.YteiolcfgaklafaaXFnExactSameStatex0
import Derived.Test.YteiolcfgaklafaaXFnExactSameStatex4
import Derived.Test.YteiolcfgaklafaaXFnExactSameStatex5
import Derived.Test.YteiolcfgaklafaaXFnExactSameStatex6
import Derived.Test.YteiolcfgaklafaaXFnExactSameStatex8
namespace Go.Proofs.Yteiolcfgaklafaa.XFnExactSameState
open List (setIfInBounds_toArray set_cons_zero set_cons_succ)
open Go.RowKit Go.Proofs.YteiolcfgaklafaaW.PrintWords Go.Proofs.YteiolcfgaklafaaW.PrintLast Go.Proofs.YteiolcfgaklafaaW.PrintMore
attribute [local go_sem] max2_int min2_int max_two min_two max_three min_three max_four min_four   -- for this text's walks alone
set_option linter.unusedVariables false
set_option linter.unusedSimpArgs false

/-! ### laws_FnExactSameState: function 8 -/
def laws_FnExactSameState.f (k : Nat) (a0_0 : Int) (a0_1 : Int) (l0_2 : List (S149)) (l0_3 : List (S152)) (a0_4 : Int) (a0_5 : Int) (a0_6 : Int) (a0_7 : Int) (a0_8 : Int) (a0_9 : Int) (a1_0 : Int) (a1_1 : Int) (l1_2 : List (S149)) (l1_3 : List (S152)) (a1_4 : Int) (a1_5 : Int) (a1_6 : Int) (a1_7 : Int) (a1_8 : Int) (a1_9 : Int) : Option (Bool) := (laws_szState.f k a0_0 a0_1 l0_2 l0_3 a0_4 a0_5 a0_6 a0_7 a0_8 a0_9 1048576).bind fun t179 => (if t179 < 0 then (some true) else ((laws_szState.f k a1_0 a1_1 l1_2 l1_3 a1_4 a1_5 a1_6 a1_7 a1_8 a1_9 t179).bind fun t180 => (if t180 < 0 then (some true) else ((laws_toState.f k a0_0 a0_1 l0_2 l0_3 a0_4 a0_5 a0_6 a0_7 a0_8 a0_9).bind fun bt181 => ((laws_toState.f k a1_0 a1_1 l1_2 l1_3 a1_4 a1_5 a1_6 a1_7 a1_8 a1_9).bind fun bt195 => ((spec_SameState.f k bt181.1 bt181.2.1 bt181.2.2.1 bt181.2.2.2.1 bt181.2.2.2.2.1 bt181.2.2.2.2.2.1 bt181.2.2.2.2.2.2.1 bt181.2.2.2.2.2.2.2.1 bt181.2.2.2.2.2.2.2.2.1 bt181.2.2.2.2.2.2.2.2.2 bt195.1 bt195.2.1 bt195.2.2.1 bt195.2.2.2.1 bt195.2.2.2.2.1 bt195.2.2.2.2.2.1 bt195.2.2.2.2.2.2.1 bt195.2.2.2.2.2.2.2.1 bt195.2.2.2.2.2.2.2.2.1 bt195.2.2.2.2.2.2.2.2.2).bind fun t209 => ((laws_toState.f k a0_0 a0_1 l0_2 l0_3 a0_4 a0_5 a0_6 a0_7 a0_8 a0_9).bind fun bt210 => ((laws_toState.f k a1_0 a1_1 l1_2 l1_3 a1_4 a1_5 a1_6 a1_7 a1_8 a1_9).bind fun bt225 => ((impl_SameState.f k bt210.1 bt210.2.1 bt210.2.2.1 bt210.2.2.2.1 bt210.2.2.2.2.1 bt210.2.2.2.2.2.1 bt210.2.2.2.2.2.2.1 bt210.2.2.2.2.2.2.2.1 bt210.2.2.2.2.2.2.2.2.1 bt210.2.2.2.2.2.2.2.2.2 bt225.1 bt225.2.1 bt225.2.2.1 bt225.2.2.2.1 bt225.2.2.2.2.1 bt225.2.2.2.2.2.1 bt225.2.2.2.2.2.2.1 bt225.2.2.2.2.2.2.2.1 bt225.2.2.2.2.2.2.2.2.1 bt225.2.2.2.2.2.2.2.2.2).bind fun t240 => (if (t240 != t209) = true then (none) else ((laws_toState.f k a0_0 a0_1 l0_2 l0_3 a0_4 a0_5 a0_6 a0_7 a0_8 a0_9).bind fun bt241 => ((laws_eqState.f k bt210.1 bt210.2.1 bt210.2.2.1 bt210.2.2.2.1 bt210.2.2.2.2.1 bt210.2.2.2.2.2.1 bt210.2.2.2.2.2.2.1 bt210.2.2.2.2.2.2.2.1 bt210.2.2.2.2.2.2.2.2.1 bt210.2.2.2.2.2.2.2.2.2 bt241.1 bt241.2.1 bt241.2.2.1 bt241.2.2.2.1 bt241.2.2.2.2.1 bt241.2.2.2.2.2.1 bt241.2.2.2.2.2.2.1 bt241.2.2.2.2.2.2.2.1 bt241.2.2.2.2.2.2.2.2.1 bt241.2.2.2.2.2.2.2.2.2).bind fun t255 => (if t255 = true then ((laws_toState.f k a1_0 a1_1 l1_2 l1_3 a1_4 a1_5 a1_6 a1_7 a1_8 a1_9).bind fun bt256 => ((laws_eqState.f k bt225.1 bt225.2.1 bt225.2.2.1 bt225.2.2.2.1 bt225.2.2.2.2.1 bt225.2.2.2.2.2.1 bt225.2.2.2.2.2.2.1 bt225.2.2.2.2.2.2.2.1 bt225.2.2.2.2.2.2.2.2.1 bt225.2.2.2.2.2.2.2.2.2 bt256.1 bt256.2.1 bt256.2.2.1 bt256.2.2.2.1 bt256.2.2.2.2.1 bt256.2.2.2.2.2.1 bt256.2.2.2.2.2.2.1 bt256.2.2.2.2.2.2.2.1 bt256.2.2.2.2.2.2.2.2.1 bt256.2.2.2.2.2.2.2.2.2).bind fun t270 => (if t270 = true then (some true) else (none)))) else (none))))))))))))))
theorem laws_FnExactSameState.mono : ∀ a0 a1 a2 a3 a4 a5 a6 a7 a8 a9 a10 a11 a12 a13 a14 a15 a16 a17 a18 a19 k,LeO (laws_FnExactSameState.f k a0 a1 a2 a3 a4 a5 a6 a7 a8 a9 a10 a11 a12 a13 a14 a15 a16 a17 a18 a19) (laws_FnExactSameState.f (k + 1) a0 a1 a2 a3 a4 a5 a6 a7 a8 a9 a10 a11 a12 a13 a14 a15 a16 a17 a18 a19) := by
 intro a0 a1 a2 a3 a4 a5 a6 a7 a8 a9 a10 a11 a12 a13 a14 a15 a16 a17 a18 a19 k
 unfold laws_FnExactSameState.f
 repeat' first
   | (with_reducible exact impl_SameState.mono _ _ _ _ _ _ _ _ _ _ _ _ _ _ _ _ _ _ _ _ _)
   | (with_reducible exact laws_eqState.mono _ _ _ _ _ _ _ _ _ _ _ _ _ _ _ _ _ _ _ _ _)
   | (with_reducible exact laws_szState.mono _ _ _ _ _ _ _ _ _ _ _ _)
   | (with_reducible exact laws_toState.mono _ _ _ _ _ _ _ _ _ _ _)
   | (with_reducible exact spec_SameState.mono _ _ _ _ _ _ _ _ _ _ _ _ _ _ _ _ _ _ _ _ _)
   | (with_reducible exact LeO.refl _)
   | (with_reducible exact LeO.none _)
   | (with_reducible refine LeO.ite ?_ ?_)
   | (with_reducible refine LeO.bind ?_ (fun _ => ?_))
   | exact impl_SameState.mono _ _ _ _ _ _ _ _ _ _ _ _ _ _ _ _ _ _ _ _ _
   | exact laws_eqState.mono _ _ _ _ _ _ _ _ _ _ _ _ _ _ _ _ _ _ _ _ _
   | exact laws_szState.mono _ _ _ _ _ _ _ _ _ _ _ _
   | exact laws_toState.mono _ _ _ _ _ _ _ _ _ _ _
   | exact spec_SameState.mono _ _ _ _ _ _ _ _ _ _ _ _ _ _ _ _ _ _ _ _ _
   | exact LeO.none _
   | refine LeO.ite ?_ ?_
   | refine LeO.bind ?_ (fun _ => ?_)
/-- What follows a cut. -/
structure CutW (p : Prop) : Prop where
  out : p
set_option maxHeartbeats 8000000 in
set_option maxRecDepth 100000 in
noncomputable def FnExactSameState_cut1 : PSigma (fun M_ : Prop => CutW M_ → ∀ (k : Nat) (a0_0 : Int) (a0_1 : Int) (A0_2 : Option Addr) (c0_2 : Nat) (l0_2 : List (S149)) (A0_3 : Option Addr) (c0_3 : Nat) (l0_3 : List (S152)) (a0_4 : Int) (a0_5 : Int) (a0_6 : Int) (a0_7 : Int) (a0_8 : Int) (a0_9 : Int) (a1_0 : Int) (a1_1 : Int) (A1_2 : Option Addr) (c1_2 : Nat) (l1_2 : List (S149)) (A1_3 : Option Addr) (c1_3 : Nat) (l1_3 : List (S152)) (a1_4 : Int) (a1_5 : Int) (a1_6 : Int) (a1_7 : Int) (a1_8 : Int) (a1_9 : Int) (r : Bool) (w : World) (hr0_2 : Kd.C k149 w A0_2 l0_2.length l0_2) (hc0_2 : l0_2.length ≤ c0_2) (hr0_3 : Kd.C k152 w A0_3 l0_3.length l0_3) (hc0_3 : l0_3.length ≤ c0_3) (hr1_2 : Kd.C k149 w A1_2 l1_2.length l1_2) (hc1_2 : l1_2.length ≤ c1_2) (hr1_3 : Kd.C k152 w A1_3 l1_3.length l1_3) (hc1_3 : l1_3.length ≤ c1_3) (h : laws_FnExactSameState.f k a0_0 a0_1 l0_2 l0_3 a0_4 a0_5 a0_6 a0_7 a0_8 a0_9 a1_0 a1_1 l1_2 l1_3 a1_4 a1_5 a1_6 a1_7 a1_8 a1_9 = some r), Calls Try.prog 8 #[.agg #[.int .i64 a0_0,.int .i64 a0_1,.slice A0_2 l0_2.length c0_2,.slice A0_3 l0_3.length c0_3,.int .i64 a0_4,.int .i64 a0_5,.int .i64 a0_6,.int .i64 a0_7,.int .i64 a0_8,.int .i64 a0_9],.agg #[.int .i64 a1_0,.int .i64 a1_1,.slice A1_2 l1_2.length c1_2,.slice A1_3 l1_3.length c1_3,.int .i64 a1_4,.int .i64 a1_5,.int .i64 a1_6,.int .i64 a1_7,.int .i64 a1_8,.int .i64 a1_9]] w fun e w' => e = .returned (.bool r) ∧ Below w.heap.size w w') := by
 apply PSigma.mk
 case snd =>
  intro hm_ k a0_0 a0_1 A0_2 c0_2 l0_2 A0_3 c0_3 l0_3 a0_4 a0_5 a0_6 a0_7 a0_8 a0_9 a1_0 a1_1 A1_2 c1_2 l1_2 A1_3 c1_3 l1_3 a1_4 a1_5 a1_6 a1_7 a1_8 a1_9 r w hr0_2 hc0_2 hr0_3 hc0_3 hr1_2 hc1_2 hr1_3 hc1_3 h
  have hu82 := Try.underlying82
  have hu87 := Try.underlying87
  have HR0_2 := Aside0.mk hr0_2
  have HC0_2 := Aside0.mk hc0_2
  clear hr0_2 hc0_2
  have HR0_3 := Aside0.mk hr0_3
  have HC0_3 := Aside0.mk hc0_3
  clear hr0_3 hc0_3
  have HR1_2 := Aside0.mk hr1_2
  have HC1_2 := Aside0.mk hc1_2
  clear hr1_2 hc1_2
  have HR1_3 := Aside0.mk hr1_3
  have HC1_3 := Aside0.mk hc1_3
  clear hr1_3 hc1_3
  have HB := Aside0.mk (Below.refl w.heap.size w)
  have H : ((laws_szState.f k a0_0 a0_1 l0_2 l0_3 a0_4 a0_5 a0_6 a0_7 a0_8 a0_9 1048576).bind fun t179 => (if t179 < 0 then (some true) else ((laws_szState.f k a1_0 a1_1 l1_2 l1_3 a1_4 a1_5 a1_6 a1_7 a1_8 a1_9 t179).bind fun t180 => (if t180 < 0 then (some true) else ((laws_toState.f k a0_0 a0_1 l0_2 l0_3 a0_4 a0_5 a0_6 a0_7 a0_8 a0_9).bind fun bt181 => ((laws_toState.f k a1_0 a1_1 l1_2 l1_3 a1_4 a1_5 a1_6 a1_7 a1_8 a1_9).bind fun bt195 => ((spec_SameState.f k bt181.1 bt181.2.1 bt181.2.2.1 bt181.2.2.2.1 bt181.2.2.2.2.1 bt181.2.2.2.2.2.1 bt181.2.2.2.2.2.2.1 bt181.2.2.2.2.2.2.2.1 bt181.2.2.2.2.2.2.2.2.1 bt181.2.2.2.2.2.2.2.2.2 bt195.1 bt195.2.1 bt195.2.2.1 bt195.2.2.2.1 bt195.2.2.2.2.1 bt195.2.2.2.2.2.1 bt195.2.2.2.2.2.2.1 bt195.2.2.2.2.2.2.2.1 bt195.2.2.2.2.2.2.2.2.1 bt195.2.2.2.2.2.2.2.2.2).bind fun t209 => ((laws_toState.f k a0_0 a0_1 l0_2 l0_3 a0_4 a0_5 a0_6 a0_7 a0_8 a0_9).bind fun bt210 => ((laws_toState.f k a1_0 a1_1 l1_2 l1_3 a1_4 a1_5 a1_6 a1_7 a1_8 a1_9).bind fun bt225 => ((impl_SameState.f k bt210.1 bt210.2.1 bt210.2.2.1 bt210.2.2.2.1 bt210.2.2.2.2.1 bt210.2.2.2.2.2.1 bt210.2.2.2.2.2.2.1 bt210.2.2.2.2.2.2.2.1 bt210.2.2.2.2.2.2.2.2.1 bt210.2.2.2.2.2.2.2.2.2 bt225.1 bt225.2.1 bt225.2.2.1 bt225.2.2.2.1 bt225.2.2.2.2.1 bt225.2.2.2.2.2.1 bt225.2.2.2.2.2.2.1 bt225.2.2.2.2.2.2.2.1 bt225.2.2.2.2.2.2.2.2.1 bt225.2.2.2.2.2.2.2.2.2).bind fun t240 => (if (t240 != t209) = true then (none) else ((laws_toState.f k a0_0 a0_1 l0_2 l0_3 a0_4 a0_5 a0_6 a0_7 a0_8 a0_9).bind fun bt241 => ((laws_eqState.f k bt210.1 bt210.2.1 bt210.2.2.1 bt210.2.2.2.1 bt210.2.2.2.2.1 bt210.2.2.2.2.2.1 bt210.2.2.2.2.2.2.1 bt210.2.2.2.2.2.2.2.1 bt210.2.2.2.2.2.2.2.2.1 bt210.2.2.2.2.2.2.2.2.2 bt241.1 bt241.2.1 bt241.2.2.1 bt241.2.2.2.1 bt241.2.2.2.2.1 bt241.2.2.2.2.2.1 bt241.2.2.2.2.2.2.1 bt241.2.2.2.2.2.2.2.1 bt241.2.2.2.2.2.2.2.2.1 bt241.2.2.2.2.2.2.2.2.2).bind fun t255 => (if t255 = true then ((laws_toState.f k a1_0 a1_1 l1_2 l1_3 a1_4 a1_5 a1_6 a1_7 a1_8 a1_9).bind fun bt256 => ((laws_eqState.f k bt225.1 bt225.2.1 bt225.2.2.1 bt225.2.2.2.1 bt225.2.2.2.2.1 bt225.2.2.2.2.2.1 bt225.2.2.2.2.2.2.1 bt225.2.2.2.2.2.2.2.1 bt225.2.2.2.2.2.2.2.2.1 bt225.2.2.2.2.2.2.2.2.2 bt256.1 bt256.2.1 bt256.2.2.1 bt256.2.2.2.1 bt256.2.2.2.2.1 bt256.2.2.2.2.2.1 bt256.2.2.2.2.2.2.1 bt256.2.2.2.2.2.2.2.1 bt256.2.2.2.2.2.2.2.2.1 bt256.2.2.2.2.2.2.2.2.2).bind fun t270 => (if t270 = true then (some true) else (none)))) else (none))))))))))))))) = some r := h
  clear h
  replace H := Option.bind_eq_some_iff.mp H
  obtain ⟨t179,A30,H⟩ := H
  try dsimp only at H
  have A3 := Aside0.mk A30
  clear A30
  by_cases c4 : t179 < 0
  ·rw [if_pos c4] at H
   have c4b0 : decide (t179 < 0) = true := decide_eq_true c4
   clear c4
   obtain rfl := Option.some.inj H
   go_enter Try.func8,Try.ntmps8
   go_wp2_with (first | ((with_reducible refine gate_dst (N:=2) rfl ?_); refine box_event ?hg (N:=2) ?hd (cs := #[.int .i64 a0_0,.int .i64 a0_1,.slice A0_2 l0_2.length c0_2,.slice A0_3 l0_3.length c0_3,.int .i64 a0_4,.int .i64 a0_5,.int .i64 a0_6,.int .i64 a0_7,.int .i64 a0_8,.int .i64 a0_9]) (t:=82) ?hr ?_; (case hd => rfl); (case hg => rfl); (case hr => first | (go_simp; done) | (go_simp; rfl)); intro gb177 hg w5 hbox hb; have n0_ := Aside0.mk (below_step bA hb); have n1_ := Aside0.mk (hbox); have n2_ := Aside0.mk ((by rw [hg]; exact (below_size bA) : w.heap.size ≤ gb177)); have n3_ := Aside0.mk ((by rw [hg]; exact (below_size bA) : w.heap.size ≤ gb177)); clear HB; have HB := n0_; have BK177 := n1_; have GW177 := n2_; have GE177 := n3_; clear n0_ n1_ n2_ n3_; clear hb hbox hg) | ((with_reducible refine gate_dst (N:=3) rfl ?_); refine box_event ?hg (N:=3) ?hd (cs := #[.int .i64 a1_0,.int .i64 a1_1,.slice A1_2 l1_2.length c1_2,.slice A1_3 l1_3.length c1_3,.int .i64 a1_4,.int .i64 a1_5,.int .i64 a1_6,.int .i64 a1_7,.int .i64 a1_8,.int .i64 a1_9]) (t:=82) ?hr ?_; (case hd => rfl); (case hg => rfl); (case hr => first | (go_simp; done) | (go_simp; rfl)); intro gb178 hg w6 hbox hb; have n0_ := Aside0.mk (blk_below (g:=gb177) (o:=.cells #[.int .i64 a0_0,.int .i64 a0_1,.slice A0_2 l0_2.length c0_2,.slice A0_3 l0_3.length c0_3,.int .i64 a0_4,.int .i64 a0_5,.int .i64 a0_6,.int .i64 a0_7,.int .i64 a0_8,.int .i64 a0_9] 82 (0,0)) (kA BK177.out) hb); have n1_ := Aside0.mk (below_step bA hb); have n2_ := Aside0.mk (hbox); have n3_ := Aside0.mk ((by rw [hg]; exact (below_size bA) : w.heap.size ≤ gb178)); have n4_ := Aside0.mk ((by rw [hg]; exact (below_size bA) : w.heap.size ≤ gb178)); have n5_ := Aside0.mk ((by rw [hg]; exact Nat.ne_of_lt (blk_lt (g:=gb177) (o:=.cells #[.int .i64 a0_0,.int .i64 a0_1,.slice A0_2 l0_2.length c0_2,.slice A0_3 l0_3.length c0_3,.int .i64 a0_4,.int .i64 a0_5,.int .i64 a0_6,.int .i64 a0_7,.int .i64 a0_8,.int .i64 a0_9] 82 (0,0)) (kA BK177.out)) : gb177 ≠ gb178)); have n6_ := Aside0.mk ((by rw [hg]; exact Nat.ne_of_gt (blk_lt (g:=gb177) (o:=.cells #[.int .i64 a0_0,.int .i64 a0_1,.slice A0_2 l0_2.length c0_2,.slice A0_3 l0_3.length c0_3,.int .i64 a0_4,.int .i64 a0_5,.int .i64 a0_6,.int .i64 a0_7,.int .i64 a0_8,.int .i64 a0_9] 82 (0,0)) (kA BK177.out)) : gb178 ≠ gb177)); clear BK177; clear HB; have BK177 := n0_; have HB := n1_; have BK178 := n2_; have GW178 := n3_; have GE178 := n4_; have NB177_178 := n5_; have NB178_177 := n6_; clear n0_ n1_ n2_ n3_ n4_ n5_ n6_; clear hb hbox hg; have hnb7 := NB177_178.out; have hnc7 := NB178_177.out; have hcz8_0 : w6.cell? ⟨gb177,0,none⟩ = some (.int .i64 a0_0) := (blk_cell BK177.out 0).trans rfl; have hcz8_1 : w6.cell? ⟨gb177,1,none⟩ = some (.int .i64 a0_1) := (blk_cell BK177.out 1).trans rfl; have hcz8_2 : w6.cell? ⟨gb177,2,none⟩ = some (.slice A0_2 l0_2.length c0_2) := (blk_cell BK177.out 2).trans rfl; have hcz8_3 : w6.cell? ⟨gb177,3,none⟩ = some (.slice A0_3 l0_3.length c0_3) := (blk_cell BK177.out 3).trans rfl; have hcz8_4 : w6.cell? ⟨gb177,4,none⟩ = some (.int .i64 a0_4) := (blk_cell BK177.out 4).trans rfl; have hcz8_5 : w6.cell? ⟨gb177,5,none⟩ = some (.int .i64 a0_5) := (blk_cell BK177.out 5).trans rfl; have hcz8_6 : w6.cell? ⟨gb177,6,none⟩ = some (.int .i64 a0_6) := (blk_cell BK177.out 6).trans rfl; have hcz8_7 : w6.cell? ⟨gb177,7,none⟩ = some (.int .i64 a0_7) := (blk_cell BK177.out 7).trans rfl; have hcz8_8 : w6.cell? ⟨gb177,8,none⟩ = some (.int .i64 a0_8) := (blk_cell BK177.out 8).trans rfl; have hcz8_9 : w6.cell? ⟨gb177,9,none⟩ = some (.int .i64 a0_9) := (blk_cell BK177.out 9).trans rfl; have hfz8_0 := blk_frozen BK177.out 0; have hfz8_1 := blk_frozen BK177.out 1; have hfz8_2 := blk_frozen BK177.out 2; have hfz8_3 := blk_frozen BK177.out 3; have hfz8_4 := blk_frozen BK177.out 4; have hfz8_5 := blk_frozen BK177.out 5; have hfz8_6 := blk_frozen BK177.out 6; have hfz8_7 := blk_frozen BK177.out 7; have hfz8_8 := blk_frozen BK177.out 8; have hfz8_9 := blk_frozen BK177.out 9) | ((with_reducible refine gate_callee (f:=41) rfl ?_); refine goesL_ (some 12) rfl rfl Try.func41 (by kernel_rfl) rfl #[.agg #[.int .i64 a0_0,.int .i64 a0_1,.slice A0_2 l0_2.length c0_2,.slice A0_3 l0_3.length c0_3,.int .i64 a0_4,.int .i64 a0_5,.int .i64 a0_6,.int .i64 a0_7,.int .i64 a0_8,.int .i64 a0_9],.int .i64 1048576] rfl mA ?_; (with_reducible refine (laws_szState.calls k a0_0 a0_1 _ _ l0_2 _ _ l0_3 a0_4 a0_5 a0_6 a0_7 a0_8 a0_9 1048576 t179 _ ?side1 ?side2 ?side3 ?side4 A3.out).mono ?_); (case side1 => repeat (first | exact (Kd.C_below HR0_2.out HB.out) | (with_reducible refine Kd.C_alloc ?_ _) | (with_reducible refine Kd.C_drewN ?_ _) | (with_reducible refine Kd.C_drew ?_))); (case side2 => exact HC0_2.out); (case side3 => repeat (first | exact (Kd.C_below HR0_3.out HB.out) | (with_reducible refine Kd.C_alloc ?_ _) | (with_reducible refine Kd.C_drewN ?_ _) | (with_reducible refine Kd.C_drew ?_))); (case side4 => exact HC0_3.out); rintro e w9 ⟨rfl,hb⟩; refine ⟨_,rfl,?_⟩; have n0_ := Aside0.mk (blk_below (g:=gb177) (o:=.cells #[.int .i64 a0_0,.int .i64 a0_1,.slice A0_2 l0_2.length c0_2,.slice A0_3 l0_3.length c0_3,.int .i64 a0_4,.int .i64 a0_5,.int .i64 a0_6,.int .i64 a0_7,.int .i64 a0_8,.int .i64 a0_9] 82 (0,0)) (kA BK177.out) hb); have n1_ := Aside0.mk (blk_below (g:=gb178) (o:=.cells #[.int .i64 a1_0,.int .i64 a1_1,.slice A1_2 l1_2.length c1_2,.slice A1_3 l1_3.length c1_3,.int .i64 a1_4,.int .i64 a1_5,.int .i64 a1_6,.int .i64 a1_7,.int .i64 a1_8,.int .i64 a1_9] 82 (0,0)) (kA BK178.out) hb); have n2_ := Aside0.mk (below_step bA hb); clear BK177; clear BK178; clear HB; have BK177 := n0_; have BK178 := n1_; have HB := n2_; clear n0_ n1_ n2_; (try clear hb); (try clear hb2); (try clear hk); (try clear hi)))
   go_ret
   exact ⟨by first | rfl | (simp [errW_none,errW_some] <;> rfl) | (simp [*,errW_none,errW_some] <;> rfl),bA⟩
  ·rw [if_neg c4] at H
   revert k a0_0 a0_1 A0_2 c0_2 l0_2 A0_3 c0_3 l0_3 a0_4 a0_5 a0_6 a0_7 a0_8 a0_9 a1_0 a1_1 A1_2 c1_2 l1_2 A1_3 c1_3 l1_3 a1_4 a1_5 a1_6 a1_7 a1_8 a1_9 r w hu82 hu87 HR0_2 HC0_2 HR0_3 HC0_3 HR1_2 HC1_2 HR1_3 HC1_3 HB t179 H A3 c4; exact hm_.out
set_option maxHeartbeats 8000000 in
set_option maxRecDepth 100000 in
noncomputable def FnExactSameState_cut2 : PSigma (fun M_ : Prop => CutW M_ → FnExactSameState_cut1.1) := by
  apply PSigma.mk
  case snd =>
   intro hm_
   intro k a0_0 a0_1 A0_2 c0_2 l0_2 A0_3 c0_3 l0_3 a0_4 a0_5 a0_6 a0_7 a0_8 a0_9 a1_0 a1_1 A1_2 c1_2 l1_2 A1_3 c1_3 l1_3 a1_4 a1_5 a1_6 a1_7 a1_8 a1_9 r w hu82 hu87 HR0_2 HC0_2 HR0_3 HC0_3 HR1_2 HC1_2 HR1_3 HC1_3 HB t179 H A3 c4
   have c4b0 : decide (t179 < 0) = false := decide_eq_false c4
   clear c4
   replace H := Option.bind_eq_some_iff.mp H
   obtain ⟨t180,A100,H⟩ := H
   try dsimp only at H
   have A10 := Aside0.mk A100
   clear A100
   by_cases c11 : t180 < 0
   ·rw [if_pos c11] at H
    have c11b0 : decide (t180 < 0) = true := decide_eq_true c11
    clear c11
    obtain rfl := Option.some.inj H
    go_enter Try.func8,Try.ntmps8
    go_wp2_with (first | ((with_reducible refine gate_dst (N:=2) rfl ?_); refine box_event ?hg (N:=2) ?hd (cs := #[.int .i64 a0_0,.int .i64 a0_1,.slice A0_2 l0_2.length c0_2,.slice A0_3 l0_3.length c0_3,.int .i64 a0_4,.int .i64 a0_5,.int .i64 a0_6,.int .i64 a0_7,.int .i64 a0_8,.int .i64 a0_9]) (t:=82) ?hr ?_; (case hd => rfl); (case hg => rfl); (case hr => first | (go_simp; done) | (go_simp; rfl)); intro gb177 hg w12 hbox hb; have n0_ := Aside0.mk (below_step bA hb); have n1_ := Aside0.mk (hbox); have n2_ := Aside0.mk ((by rw [hg]; exact (below_size bA) : w.heap.size ≤ gb177)); have n3_ := Aside0.mk ((by rw [hg]; exact (below_size bA) : w.heap.size ≤ gb177)); clear HB; have HB := n0_; have BK177 := n1_; have GW177 := n2_; have GE177 := n3_; clear n0_ n1_ n2_ n3_; clear hb hbox hg) | ((with_reducible refine gate_dst (N:=3) rfl ?_); refine box_event ?hg (N:=3) ?hd (cs := #[.int .i64 a1_0,.int .i64 a1_1,.slice A1_2 l1_2.length c1_2,.slice A1_3 l1_3.length c1_3,.int .i64 a1_4,.int .i64 a1_5,.int .i64 a1_6,.int .i64 a1_7,.int .i64 a1_8,.int .i64 a1_9]) (t:=82) ?hr ?_; (case hd => rfl); (case hg => rfl); (case hr => first | (go_simp; done) | (go_simp; rfl)); intro gb178 hg w13 hbox hb; have n0_ := Aside0.mk (blk_below (g:=gb177) (o:=.cells #[.int .i64 a0_0,.int .i64 a0_1,.slice A0_2 l0_2.length c0_2,.slice A0_3 l0_3.length c0_3,.int .i64 a0_4,.int .i64 a0_5,.int .i64 a0_6,.int .i64 a0_7,.int .i64 a0_8,.int .i64 a0_9] 82 (0,0)) (kA BK177.out) hb); have n1_ := Aside0.mk (below_step bA hb); have n2_ := Aside0.mk (hbox); have n3_ := Aside0.mk ((by rw [hg]; exact (below_size bA) : w.heap.size ≤ gb178)); have n4_ := Aside0.mk ((by rw [hg]; exact (below_size bA) : w.heap.size ≤ gb178)); have n5_ := Aside0.mk ((by rw [hg]; exact Nat.ne_of_lt (blk_lt (g:=gb177) (o:=.cells #[.int .i64 a0_0,.int .i64 a0_1,.slice A0_2 l0_2.length c0_2,.slice A0_3 l0_3.length c0_3,.int .i64 a0_4,.int .i64 a0_5,.int .i64 a0_6,.int .i64 a0_7,.int .i64 a0_8,.int .i64 a0_9] 82 (0,0)) (kA BK177.out)) : gb177 ≠ gb178)); have n6_ := Aside0.mk ((by rw [hg]; exact Nat.ne_of_gt (blk_lt (g:=gb177) (o:=.cells #[.int .i64 a0_0,.int .i64 a0_1,.slice A0_2 l0_2.length c0_2,.slice A0_3 l0_3.length c0_3,.int .i64 a0_4,.int .i64 a0_5,.int .i64 a0_6,.int .i64 a0_7,.int .i64 a0_8,.int .i64 a0_9] 82 (0,0)) (kA BK177.out)) : gb178 ≠ gb177)); clear BK177; clear HB; have BK177 := n0_; have HB := n1_; have BK178 := n2_; have GW178 := n3_; have GE178 := n4_; have NB177_178 := n5_; have NB178_177 := n6_; clear n0_ n1_ n2_ n3_ n4_ n5_ n6_; clear hb hbox hg; have hnb14 := NB177_178.out; have hnc14 := NB178_177.out; have hcz15_0 : w13.cell? ⟨gb177,0,none⟩ = some (.int .i64 a0_0) := (blk_cell BK177.out 0).trans rfl; have hcz15_1 : w13.cell? ⟨gb177,1,none⟩ = some (.int .i64 a0_1) := (blk_cell BK177.out 1).trans rfl; have hcz15_2 : w13.cell? ⟨gb177,2,none⟩ = some (.slice A0_2 l0_2.length c0_2) := (blk_cell BK177.out 2).trans rfl; have hcz15_3 : w13.cell? ⟨gb177,3,none⟩ = some (.slice A0_3 l0_3.length c0_3) := (blk_cell BK177.out 3).trans rfl; have hcz15_4 : w13.cell? ⟨gb177,4,none⟩ = some (.int .i64 a0_4) := (blk_cell BK177.out 4).trans rfl; have hcz15_5 : w13.cell? ⟨gb177,5,none⟩ = some (.int .i64 a0_5) := (blk_cell BK177.out 5).trans rfl; have hcz15_6 : w13.cell? ⟨gb177,6,none⟩ = some (.int .i64 a0_6) := (blk_cell BK177.out 6).trans rfl; have hcz15_7 : w13.cell? ⟨gb177,7,none⟩ = some (.int .i64 a0_7) := (blk_cell BK177.out 7).trans rfl; have hcz15_8 : w13.cell? ⟨gb177,8,none⟩ = some (.int .i64 a0_8) := (blk_cell BK177.out 8).trans rfl; have hcz15_9 : w13.cell? ⟨gb177,9,none⟩ = some (.int .i64 a0_9) := (blk_cell BK177.out 9).trans rfl; have hfz15_0 := blk_frozen BK177.out 0; have hfz15_1 := blk_frozen BK177.out 1; have hfz15_2 := blk_frozen BK177.out 2; have hfz15_3 := blk_frozen BK177.out 3; have hfz15_4 := blk_frozen BK177.out 4; have hfz15_5 := blk_frozen BK177.out 5; have hfz15_6 := blk_frozen BK177.out 6; have hfz15_7 := blk_frozen BK177.out 7; have hfz15_8 := blk_frozen BK177.out 8; have hfz15_9 := blk_frozen BK177.out 9) | ((with_reducible refine gate_callee (f:=41) rfl ?_); refine goesL_ (some 12) rfl rfl Try.func41 (by kernel_rfl) rfl #[.agg #[.int .i64 a0_0,.int .i64 a0_1,.slice A0_2 l0_2.length c0_2,.slice A0_3 l0_3.length c0_3,.int .i64 a0_4,.int .i64 a0_5,.int .i64 a0_6,.int .i64 a0_7,.int .i64 a0_8,.int .i64 a0_9],.int .i64 1048576] rfl mA ?_; (with_reducible refine (laws_szState.calls k a0_0 a0_1 _ _ l0_2 _ _ l0_3 a0_4 a0_5 a0_6 a0_7 a0_8 a0_9 1048576 t179 _ ?side1 ?side2 ?side3 ?side4 A3.out).mono ?_); (case side1 => repeat (first | exact (Kd.C_below HR0_2.out HB.out) | (with_reducible refine Kd.C_alloc ?_ _) | (with_reducible refine Kd.C_drewN ?_ _) | (with_reducible refine Kd.C_drew ?_))); (case side2 => exact HC0_2.out); (case side3 => repeat (first | exact (Kd.C_below HR0_3.out HB.out) | (with_reducible refine Kd.C_alloc ?_ _) | (with_reducible refine Kd.C_drewN ?_ _) | (with_reducible refine Kd.C_drew ?_))); (case side4 => exact HC0_3.out); rintro e w16 ⟨rfl,hb⟩; refine ⟨_,rfl,?_⟩; have n0_ := Aside0.mk (blk_below (g:=gb177) (o:=.cells #[.int .i64 a0_0,.int .i64 a0_1,.slice A0_2 l0_2.length c0_2,.slice A0_3 l0_3.length c0_3,.int .i64 a0_4,.int .i64 a0_5,.int .i64 a0_6,.int .i64 a0_7,.int .i64 a0_8,.int .i64 a0_9] 82 (0,0)) (kA BK177.out) hb); have n1_ := Aside0.mk (blk_below (g:=gb178) (o:=.cells #[.int .i64 a1_0,.int .i64 a1_1,.slice A1_2 l1_2.length c1_2,.slice A1_3 l1_3.length c1_3,.int .i64 a1_4,.int .i64 a1_5,.int .i64 a1_6,.int .i64 a1_7,.int .i64 a1_8,.int .i64 a1_9] 82 (0,0)) (kA BK178.out) hb); have n2_ := Aside0.mk (below_step bA hb); clear BK177; clear BK178; clear HB; have BK177 := n0_; have BK178 := n1_; have HB := n2_; clear n0_ n1_ n2_; (try clear hb); (try clear hb2); (try clear hk); (try clear hi); have hcz17_0 : w16.cell? ⟨gb178,0,none⟩ = some (.int .i64 a1_0) := (blk_cell BK178.out 0).trans rfl; have hcz17_1 : w16.cell? ⟨gb178,1,none⟩ = some (.int .i64 a1_1) := (blk_cell BK178.out 1).trans rfl; have hcz17_2 : w16.cell? ⟨gb178,2,none⟩ = some (.slice A1_2 l1_2.length c1_2) := (blk_cell BK178.out 2).trans rfl; have hcz17_3 : w16.cell? ⟨gb178,3,none⟩ = some (.slice A1_3 l1_3.length c1_3) := (blk_cell BK178.out 3).trans rfl; have hcz17_4 : w16.cell? ⟨gb178,4,none⟩ = some (.int .i64 a1_4) := (blk_cell BK178.out 4).trans rfl; have hcz17_5 : w16.cell? ⟨gb178,5,none⟩ = some (.int .i64 a1_5) := (blk_cell BK178.out 5).trans rfl; have hcz17_6 : w16.cell? ⟨gb178,6,none⟩ = some (.int .i64 a1_6) := (blk_cell BK178.out 6).trans rfl; have hcz17_7 : w16.cell? ⟨gb178,7,none⟩ = some (.int .i64 a1_7) := (blk_cell BK178.out 7).trans rfl; have hcz17_8 : w16.cell? ⟨gb178,8,none⟩ = some (.int .i64 a1_8) := (blk_cell BK178.out 8).trans rfl; have hcz17_9 : w16.cell? ⟨gb178,9,none⟩ = some (.int .i64 a1_9) := (blk_cell BK178.out 9).trans rfl; have hfz17_0 := blk_frozen BK178.out 0; have hfz17_1 := blk_frozen BK178.out 1; have hfz17_2 := blk_frozen BK178.out 2; have hfz17_3 := blk_frozen BK178.out 3; have hfz17_4 := blk_frozen BK178.out 4; have hfz17_5 := blk_frozen BK178.out 5; have hfz17_6 := blk_frozen BK178.out 6; have hfz17_7 := blk_frozen BK178.out 7; have hfz17_8 := blk_frozen BK178.out 8; have hfz17_9 := blk_frozen BK178.out 9) | ((with_reducible refine gate_callee (f:=41) rfl ?_); refine goesL_ (some 17) rfl rfl Try.func41 (by kernel_rfl) rfl #[.agg #[.int .i64 a1_0,.int .i64 a1_1,.slice A1_2 l1_2.length c1_2,.slice A1_3 l1_3.length c1_3,.int .i64 a1_4,.int .i64 a1_5,.int .i64 a1_6,.int .i64 a1_7,.int .i64 a1_8,.int .i64 a1_9],.int .i64 t179] rfl mA ?_; (with_reducible refine (laws_szState.calls k a1_0 a1_1 _ _ l1_2 _ _ l1_3 a1_4 a1_5 a1_6 a1_7 a1_8 a1_9 t179 t180 _ ?side1 ?side2 ?side3 ?side4 A10.out).mono ?_); (case side1 => repeat (first | exact (Kd.C_below HR1_2.out HB.out) | (with_reducible refine Kd.C_alloc ?_ _) | (with_reducible refine Kd.C_drewN ?_ _) | (with_reducible refine Kd.C_drew ?_))); (case side2 => exact HC1_2.out); (case side3 => repeat (first | exact (Kd.C_below HR1_3.out HB.out) | (with_reducible refine Kd.C_alloc ?_ _) | (with_reducible refine Kd.C_drewN ?_ _) | (with_reducible refine Kd.C_drew ?_))); (case side4 => exact HC1_3.out); rintro e w18 ⟨rfl,hb⟩; refine ⟨_,rfl,?_⟩; have n0_ := Aside0.mk (blk_below (g:=gb177) (o:=.cells #[.int .i64 a0_0,.int .i64 a0_1,.slice A0_2 l0_2.length c0_2,.slice A0_3 l0_3.length c0_3,.int .i64 a0_4,.int .i64 a0_5,.int .i64 a0_6,.int .i64 a0_7,.int .i64 a0_8,.int .i64 a0_9] 82 (0,0)) (kA BK177.out) hb); have n1_ := Aside0.mk (blk_below (g:=gb178) (o:=.cells #[.int .i64 a1_0,.int .i64 a1_1,.slice A1_2 l1_2.length c1_2,.slice A1_3 l1_3.length c1_3,.int .i64 a1_4,.int .i64 a1_5,.int .i64 a1_6,.int .i64 a1_7,.int .i64 a1_8,.int .i64 a1_9] 82 (0,0)) (kA BK178.out) hb); have n2_ := Aside0.mk (below_step bA hb); clear BK177; clear BK178; clear HB; have BK177 := n0_; have BK178 := n1_; have HB := n2_; clear n0_ n1_ n2_; (try clear hb); (try clear hb2); (try clear hk); (try clear hi)))
    go_ret
    exact ⟨by first | rfl | (simp [errW_none,errW_some] <;> rfl) | (simp [*,errW_none,errW_some] <;> rfl),bA⟩
   ·rw [if_neg c11] at H
    revert k a0_0 a0_1 A0_2 c0_2 l0_2 A0_3 c0_3 l0_3 a0_4 a0_5 a0_6 a0_7 a0_8 a0_9 a1_0 a1_1 A1_2 c1_2 l1_2 A1_3 c1_3 l1_3 a1_4 a1_5 a1_6 a1_7 a1_8 a1_9 r w hu82 hu87 HR0_2 HC0_2 HR0_3 HC0_3 HR1_2 HC1_2 HR1_3 HC1_3 HB t179 A3 c4b0 t180 H A10 c11; exact hm_.out
set_option maxHeartbeats 8000000 in
set_option maxRecDepth 100000 in
noncomputable def FnExactSameState_cut3 : PSigma (fun M_ : Prop => CutW M_ → FnExactSameState_cut2.1) := by
   apply PSigma.mk
   case snd =>
    intro hm_
    intro k a0_0 a0_1 A0_2 c0_2 l0_2 A0_3 c0_3 l0_3 a0_4 a0_5 a0_6 a0_7 a0_8 a0_9 a1_0 a1_1 A1_2 c1_2 l1_2 A1_3 c1_3 l1_3 a1_4 a1_5 a1_6 a1_7 a1_8 a1_9 r w hu82 hu87 HR0_2 HC0_2 HR0_3 HC0_3 HR1_2 HC1_2 HR1_3 HC1_3 HB t179 A3 c4b0 t180 H A10 c11
    have c11b0 : decide (t180 < 0) = false := decide_eq_false c11
    clear c11
    replace H := Option.bind_eq_some_iff.mp H
    obtain ⟨⟨t181,t182,t183,t186,t189,t190,t191,t192,t193,t194⟩,A190,H⟩ := H
    try dsimp only at H
    have A19 := Aside0.mk A190
    clear A190
    replace H := Option.bind_eq_some_iff.mp H
    obtain ⟨⟨t195,t196,t197,t200,t203,t204,t205,t206,t207,t208⟩,A200,H⟩ := H
    try dsimp only at H
    have A20 := Aside0.mk A200
    clear A200
    replace H := Option.bind_eq_some_iff.mp H
    obtain ⟨t209,A210,H⟩ := H
    try dsimp only at H
    have A21 := Aside0.mk A210
    clear A210
    replace H := Option.bind_eq_some_iff.mp H
    obtain ⟨⟨t210,t211,t212,t215,t218,t219,t220,t221,t222,t223⟩,A220,H⟩ := H
    try dsimp only at H
    have A22 := Aside0.mk A220
    clear A220
    replace H := Option.bind_eq_some_iff.mp H
    obtain ⟨⟨t225,t226,t227,t230,t233,t234,t235,t236,t237,t238⟩,A230,H⟩ := H
    try dsimp only at H
    have A23 := Aside0.mk A230
    clear A230
    replace H := Option.bind_eq_some_iff.mp H
    obtain ⟨t240,A240,H⟩ := H
    try dsimp only at H
    have A24 := Aside0.mk A240
    clear A240
    by_cases c25 : (t240 != t209) = true
    ·rw [if_pos c25] at H
     exact absurd H (by simp)
    ·rw [if_neg c25] at H
     have c25b0 : (t240 != t209) = false := by simpa using c25
     (try (have c25b1 : decide (t240 = t209) = true := by simpa using c25))
     (try (have c25b2 : (t240 == t209) = true := by simpa using c25))
     clear c25
     replace H := Option.bind_eq_some_iff.mp H
     obtain ⟨⟨t241,t242,t243,t246,t249,t250,t251,t252,t253,t254⟩,A260,H⟩ := H
     try dsimp only at H
     have A26 := Aside0.mk A260
     clear A260
     replace H := Option.bind_eq_some_iff.mp H
     obtain ⟨t255,A270,H⟩ := H
     try dsimp only at H
     have A27 := Aside0.mk A270
     clear A270
     by_cases c28 : t255 = true
     ·subst c28
      rw [if_pos rfl] at H
      replace H := Option.bind_eq_some_iff.mp H
      obtain ⟨⟨t256,t257,t258,t261,t264,t265,t266,t267,t268,t269⟩,A290,H⟩ := H
      try dsimp only at H
      have A29 := Aside0.mk A290
      clear A290
      replace H := Option.bind_eq_some_iff.mp H
      obtain ⟨t270,A300,H⟩ := H
      try dsimp only at H
      have A30 := Aside0.mk A300
      clear A300
      by_cases c31 : t270 = true
      ·subst c31
       rw [if_pos rfl] at H
       obtain rfl := Option.some.inj H
       go_enter Try.func8,Try.ntmps8
       try go_wp2_with (first | ((with_reducible refine gate_dst (N:=2) rfl ?_); refine box_event ?hg (N:=2) ?hd (cs := #[.int .i64 a0_0,.int .i64 a0_1,.slice A0_2 l0_2.length c0_2,.slice A0_3 l0_3.length c0_3,.int .i64 a0_4,.int .i64 a0_5,.int .i64 a0_6,.int .i64 a0_7,.int .i64 a0_8,.int .i64 a0_9]) (t:=82) ?hr ?_; (case hd => rfl); (case hg => rfl); (case hr => first | (go_simp; done) | (go_simp; rfl)); intro gb177 hg w32 hbox hb; have n0_ := Aside0.mk (below_step bA hb); have n1_ := Aside0.mk (hbox); have n2_ := Aside0.mk ((by rw [hg]; exact (below_size bA) : w.heap.size ≤ gb177)); have n3_ := Aside0.mk ((by rw [hg]; exact (below_size bA) : w.heap.size ≤ gb177)); clear HB; have HB := n0_; have BK177 := n1_; have GW177 := n2_; have GE177 := n3_; clear n0_ n1_ n2_ n3_; clear hb hbox hg) | ((with_reducible refine gate_dst (N:=3) rfl ?_); refine box_event ?hg (N:=3) ?hd (cs := #[.int .i64 a1_0,.int .i64 a1_1,.slice A1_2 l1_2.length c1_2,.slice A1_3 l1_3.length c1_3,.int .i64 a1_4,.int .i64 a1_5,.int .i64 a1_6,.int .i64 a1_7,.int .i64 a1_8,.int .i64 a1_9]) (t:=82) ?hr ?_; (case hd => rfl); (case hg => rfl); (case hr => first | (go_simp; done) | (go_simp; rfl)); intro gb178 hg w33 hbox hb; have n0_ := Aside0.mk (blk_below (g:=gb177) (o:=.cells #[.int .i64 a0_0,.int .i64 a0_1,.slice A0_2 l0_2.length c0_2,.slice A0_3 l0_3.length c0_3,.int .i64 a0_4,.int .i64 a0_5,.int .i64 a0_6,.int .i64 a0_7,.int .i64 a0_8,.int .i64 a0_9] 82 (0,0)) (kA BK177.out) hb); have n1_ := Aside0.mk (below_step bA hb); have n2_ := Aside0.mk (hbox); have n3_ := Aside0.mk ((by rw [hg]; exact (below_size bA) : w.heap.size ≤ gb178)); have n4_ := Aside0.mk ((by rw [hg]; exact (below_size bA) : w.heap.size ≤ gb178)); have n5_ := Aside0.mk ((by rw [hg]; exact Nat.ne_of_lt (blk_lt (g:=gb177) (o:=.cells #[.int .i64 a0_0,.int .i64 a0_1,.slice A0_2 l0_2.length c0_2,.slice A0_3 l0_3.length c0_3,.int .i64 a0_4,.int .i64 a0_5,.int .i64 a0_6,.int .i64 a0_7,.int .i64 a0_8,.int .i64 a0_9] 82 (0,0)) (kA BK177.out)) : gb177 ≠ gb178)); have n6_ := Aside0.mk ((by rw [hg]; exact Nat.ne_of_gt (blk_lt (g:=gb177) (o:=.cells #[.int .i64 a0_0,.int .i64 a0_1,.slice A0_2 l0_2.length c0_2,.slice A0_3 l0_3.length c0_3,.int .i64 a0_4,.int .i64 a0_5,.int .i64 a0_6,.int .i64 a0_7,.int .i64 a0_8,.int .i64 a0_9] 82 (0,0)) (kA BK177.out)) : gb178 ≠ gb177)); clear BK177; clear HB; have BK177 := n0_; have HB := n1_; have BK178 := n2_; have GW178 := n3_; have GE178 := n4_; have NB177_178 := n5_; have NB178_177 := n6_; clear n0_ n1_ n2_ n3_ n4_ n5_ n6_; clear hb hbox hg; have hnb34 := NB177_178.out; have hnc34 := NB178_177.out; have hcz35_0 : w33.cell? ⟨gb177,0,none⟩ = some (.int .i64 a0_0) := (blk_cell BK177.out 0).trans rfl; have hcz35_1 : w33.cell? ⟨gb177,1,none⟩ = some (.int .i64 a0_1) := (blk_cell BK177.out 1).trans rfl; have hcz35_2 : w33.cell? ⟨gb177,2,none⟩ = some (.slice A0_2 l0_2.length c0_2) := (blk_cell BK177.out 2).trans rfl; have hcz35_3 : w33.cell? ⟨gb177,3,none⟩ = some (.slice A0_3 l0_3.length c0_3) := (blk_cell BK177.out 3).trans rfl; have hcz35_4 : w33.cell? ⟨gb177,4,none⟩ = some (.int .i64 a0_4) := (blk_cell BK177.out 4).trans rfl; have hcz35_5 : w33.cell? ⟨gb177,5,none⟩ = some (.int .i64 a0_5) := (blk_cell BK177.out 5).trans rfl; have hcz35_6 : w33.cell? ⟨gb177,6,none⟩ = some (.int .i64 a0_6) := (blk_cell BK177.out 6).trans rfl; have hcz35_7 : w33.cell? ⟨gb177,7,none⟩ = some (.int .i64 a0_7) := (blk_cell BK177.out 7).trans rfl; have hcz35_8 : w33.cell? ⟨gb177,8,none⟩ = some (.int .i64 a0_8) := (blk_cell BK177.out 8).trans rfl; have hcz35_9 : w33.cell? ⟨gb177,9,none⟩ = some (.int .i64 a0_9) := (blk_cell BK177.out 9).trans rfl; have hfz35_0 := blk_frozen BK177.out 0; have hfz35_1 := blk_frozen BK177.out 1; have hfz35_2 := blk_frozen BK177.out 2; have hfz35_3 := blk_frozen BK177.out 3; have hfz35_4 := blk_frozen BK177.out 4; have hfz35_5 := blk_frozen BK177.out 5; have hfz35_6 := blk_frozen BK177.out 6; have hfz35_7 := blk_frozen BK177.out 7; have hfz35_8 := blk_frozen BK177.out 8; have hfz35_9 := blk_frozen BK177.out 9) | ((with_reducible refine gate_callee (f:=41) rfl ?_); refine goesL_ (some 12) rfl rfl Try.func41 (by kernel_rfl) rfl #[.agg #[.int .i64 a0_0,.int .i64 a0_1,.slice A0_2 l0_2.length c0_2,.slice A0_3 l0_3.length c0_3,.int .i64 a0_4,.int .i64 a0_5,.int .i64 a0_6,.int .i64 a0_7,.int .i64 a0_8,.int .i64 a0_9],.int .i64 1048576] rfl mA ?_; (with_reducible refine (laws_szState.calls k a0_0 a0_1 _ _ l0_2 _ _ l0_3 a0_4 a0_5 a0_6 a0_7 a0_8 a0_9 1048576 t179 _ ?side1 ?side2 ?side3 ?side4 A3.out).mono ?_); (case side1 => repeat (first | exact (Kd.C_below HR0_2.out HB.out) | (with_reducible refine Kd.C_alloc ?_ _) | (with_reducible refine Kd.C_drewN ?_ _) | (with_reducible refine Kd.C_drew ?_))); (case side2 => exact HC0_2.out); (case side3 => repeat (first | exact (Kd.C_below HR0_3.out HB.out) | (with_reducible refine Kd.C_alloc ?_ _) | (with_reducible refine Kd.C_drewN ?_ _) | (with_reducible refine Kd.C_drew ?_))); (case side4 => exact HC0_3.out); rintro e w36 ⟨rfl,hb⟩; refine ⟨_,rfl,?_⟩; have n0_ := Aside0.mk (blk_below (g:=gb177) (o:=.cells #[.int .i64 a0_0,.int .i64 a0_1,.slice A0_2 l0_2.length c0_2,.slice A0_3 l0_3.length c0_3,.int .i64 a0_4,.int .i64 a0_5,.int .i64 a0_6,.int .i64 a0_7,.int .i64 a0_8,.int .i64 a0_9] 82 (0,0)) (kA BK177.out) hb); have n1_ := Aside0.mk (blk_below (g:=gb178) (o:=.cells #[.int .i64 a1_0,.int .i64 a1_1,.slice A1_2 l1_2.length c1_2,.slice A1_3 l1_3.length c1_3,.int .i64 a1_4,.int .i64 a1_5,.int .i64 a1_6,.int .i64 a1_7,.int .i64 a1_8,.int .i64 a1_9] 82 (0,0)) (kA BK178.out) hb); have n2_ := Aside0.mk (below_step bA hb); clear BK177; clear BK178; clear HB; have BK177 := n0_; have BK178 := n1_; have HB := n2_; clear n0_ n1_ n2_; (try clear hb); (try clear hb2); (try clear hk); (try clear hi); have hcz37_0 : w36.cell? ⟨gb178,0,none⟩ = some (.int .i64 a1_0) := (blk_cell BK178.out 0).trans rfl; have hcz37_1 : w36.cell? ⟨gb178,1,none⟩ = some (.int .i64 a1_1) := (blk_cell BK178.out 1).trans rfl; have hcz37_2 : w36.cell? ⟨gb178,2,none⟩ = some (.slice A1_2 l1_2.length c1_2) := (blk_cell BK178.out 2).trans rfl; have hcz37_3 : w36.cell? ⟨gb178,3,none⟩ = some (.slice A1_3 l1_3.length c1_3) := (blk_cell BK178.out 3).trans rfl; have hcz37_4 : w36.cell? ⟨gb178,4,none⟩ = some (.int .i64 a1_4) := (blk_cell BK178.out 4).trans rfl; have hcz37_5 : w36.cell? ⟨gb178,5,none⟩ = some (.int .i64 a1_5) := (blk_cell BK178.out 5).trans rfl; have hcz37_6 : w36.cell? ⟨gb178,6,none⟩ = some (.int .i64 a1_6) := (blk_cell BK178.out 6).trans rfl; have hcz37_7 : w36.cell? ⟨gb178,7,none⟩ = some (.int .i64 a1_7) := (blk_cell BK178.out 7).trans rfl; have hcz37_8 : w36.cell? ⟨gb178,8,none⟩ = some (.int .i64 a1_8) := (blk_cell BK178.out 8).trans rfl; have hcz37_9 : w36.cell? ⟨gb178,9,none⟩ = some (.int .i64 a1_9) := (blk_cell BK178.out 9).trans rfl; have hfz37_0 := blk_frozen BK178.out 0; have hfz37_1 := blk_frozen BK178.out 1; have hfz37_2 := blk_frozen BK178.out 2; have hfz37_3 := blk_frozen BK178.out 3; have hfz37_4 := blk_frozen BK178.out 4; have hfz37_5 := blk_frozen BK178.out 5; have hfz37_6 := blk_frozen BK178.out 6; have hfz37_7 := blk_frozen BK178.out 7; have hfz37_8 := blk_frozen BK178.out 8; have hfz37_9 := blk_frozen BK178.out 9) | ((with_reducible refine gate_callee (f:=41) rfl ?_); refine goesL_ (some 17) rfl rfl Try.func41 (by kernel_rfl) rfl #[.agg #[.int .i64 a1_0,.int .i64 a1_1,.slice A1_2 l1_2.length c1_2,.slice A1_3 l1_3.length c1_3,.int .i64 a1_4,.int .i64 a1_5,.int .i64 a1_6,.int .i64 a1_7,.int .i64 a1_8,.int .i64 a1_9],.int .i64 t179] rfl mA ?_; (with_reducible refine (laws_szState.calls k a1_0 a1_1 _ _ l1_2 _ _ l1_3 a1_4 a1_5 a1_6 a1_7 a1_8 a1_9 t179 t180 _ ?side1 ?side2 ?side3 ?side4 A10.out).mono ?_); (case side1 => repeat (first | exact (Kd.C_below HR1_2.out HB.out) | (with_reducible refine Kd.C_alloc ?_ _) | (with_reducible refine Kd.C_drewN ?_ _) | (with_reducible refine Kd.C_drew ?_))); (case side2 => exact HC1_2.out); (case side3 => repeat (first | exact (Kd.C_below HR1_3.out HB.out) | (with_reducible refine Kd.C_alloc ?_ _) | (with_reducible refine Kd.C_drewN ?_ _) | (with_reducible refine Kd.C_drew ?_))); (case side4 => exact HC1_3.out); rintro e w38 ⟨rfl,hb⟩; refine ⟨_,rfl,?_⟩; have n0_ := Aside0.mk (blk_below (g:=gb177) (o:=.cells #[.int .i64 a0_0,.int .i64 a0_1,.slice A0_2 l0_2.length c0_2,.slice A0_3 l0_3.length c0_3,.int .i64 a0_4,.int .i64 a0_5,.int .i64 a0_6,.int .i64 a0_7,.int .i64 a0_8,.int .i64 a0_9] 82 (0,0)) (kA BK177.out) hb); have n1_ := Aside0.mk (blk_below (g:=gb178) (o:=.cells #[.int .i64 a1_0,.int .i64 a1_1,.slice A1_2 l1_2.length c1_2,.slice A1_3 l1_3.length c1_3,.int .i64 a1_4,.int .i64 a1_5,.int .i64 a1_6,.int .i64 a1_7,.int .i64 a1_8,.int .i64 a1_9] 82 (0,0)) (kA BK178.out) hb); have n2_ := Aside0.mk (below_step bA hb); clear BK177; clear BK178; clear HB; have BK177 := n0_; have BK178 := n1_; have HB := n2_; clear n0_ n1_ n2_; (try clear hb); (try clear hb2); (try clear hk); (try clear hi)))
       have n0_ := Aside0.mk (blk_drew BK177.out)
       have n1_ := Aside0.mk (blk_drew BK178.out)
       have n2_ := Aside0.mk (below_drew1 HB.out)
       clear BK177
       clear BK178
       clear HB
       have BK177 := n0_
       have BK178 := n1_
       have HB := n2_
       clear n0_ n1_ n2_
       rename_i zp3_1 zp3_2 zp3_3; revert k a0_0 a0_1 A0_2 c0_2 l0_2 A0_3 c0_3 l0_3 a0_4 a0_5 a0_6 a0_7 a0_8 a0_9 a1_0 a1_1 A1_2 c1_2 l1_2 A1_3 c1_3 l1_3 a1_4 a1_5 a1_6 a1_7 a1_8 a1_9 w hu82 hu87 HR0_2 HC0_2 HR0_3 HC0_3 HR1_2 HC1_2 HR1_3 HC1_3 t179 A3 c4b0 t180 A10 c11b0 t181 t182 t183 t186 t189 t190 t191 t192 t193 t194 A19 t195 t196 t197 t200 t203 t204 t205 t206 t207 t208 A20 t209 A21 t210 t211 t212 t215 t218 t219 t220 t221 t222 t223 A22 t225 t226 t227 t230 t233 t234 t235 t236 t237 t238 A23 t240 A24 c25b0 c25b1 c25b2 t241 t242 t243 t246 t249 t250 t251 t252 t253 t254 A26 A27 t256 t257 t258 t261 t264 t265 t266 t267 t268 t269 A29 A30 zp3_1 gb177 w32 GW177 GE177 gb178 w33 GW178 GE178 NB177_178 NB178_177 hnb34 hnc34 hcz35_0 hcz35_1 hcz35_2 hcz35_3 hcz35_4 hcz35_5 hcz35_6 hcz35_7 hcz35_8 hcz35_9 hfz35_0 hfz35_1 hfz35_2 hfz35_3 hfz35_4 hfz35_5 hfz35_6 hfz35_7 hfz35_8 hfz35_9 w36 hcz37_0 hcz37_1 hcz37_2 hcz37_3 hcz37_4 hcz37_5 hcz37_6 hcz37_7 hcz37_8 hcz37_9 hfz37_0 hfz37_1 hfz37_2 hfz37_3 hfz37_4 hfz37_5 hfz37_6 hfz37_7 hfz37_8 hfz37_9 w38 zp3_2 zp3_3 H BK177 BK178 HB; exact hm_.out
      ·replace c31 := Bool.eq_false_iff.mpr c31
       subst c31
       rw [if_neg (show ¬ (false = true) by decide)] at H
       exact absurd H (by simp)
     ·replace c28 := Bool.eq_false_iff.mpr c28
      subst c28
      rw [if_neg (show ¬ (false = true) by decide)] at H
      exact absurd H (by simp)
set_option maxHeartbeats 8000000 in
set_option maxRecDepth 100000 in
noncomputable def FnExactSameState_cut4 : PSigma (fun M_ : Prop => CutW M_ → FnExactSameState_cut3.1) := by
      apply PSigma.mk
      case snd =>
       intro hm_
       intro k a0_0 a0_1 A0_2 c0_2 l0_2 A0_3 c0_3 l0_3 a0_4 a0_5 a0_6 a0_7 a0_8 a0_9 a1_0 a1_1 A1_2 c1_2 l1_2 A1_3 c1_3 l1_3 a1_4 a1_5 a1_6 a1_7 a1_8 a1_9 w hu82 hu87 HR0_2 HC0_2 HR0_3 HC0_3 HR1_2 HC1_2 HR1_3 HC1_3 t179 A3 c4b0 t180 A10 c11b0 t181 t182 t183 t186 t189 t190 t191 t192 t193 t194 A19 t195 t196 t197 t200 t203 t204 t205 t206 t207 t208 A20 t209 A21 t210 t211 t212 t215 t218 t219 t220 t221 t222 t223 A22 t225 t226 t227 t230 t233 t234 t235 t236 t237 t238 A23 t240 A24 c25b0 c25b1 c25b2 t241 t242 t243 t246 t249 t250 t251 t252 t253 t254 A26 A27 t256 t257 t258 t261 t264 t265 t266 t267 t268 t269 A29 A30 zq3_1 gb177 w32 GW177 GE177 gb178 w33 GW178 GE178 NB177_178 NB178_177 hnb34 hnc34 hcz35_0 hcz35_1 hcz35_2 hcz35_3 hcz35_4 hcz35_5 hcz35_6 hcz35_7 hcz35_8 hcz35_9 hfz35_0 hfz35_1 hfz35_2 hfz35_3 hfz35_4 hfz35_5 hfz35_6 hfz35_7 hfz35_8 hfz35_9 w36 hcz37_0 hcz37_1 hcz37_2 hcz37_3 hcz37_4 hcz37_5 hcz37_6 hcz37_7 hcz37_8 hcz37_9 hfz37_0 hfz37_1 hfz37_2 hfz37_3 hfz37_4 hfz37_5 hfz37_6 hfz37_7 hfz37_8 hfz37_9 w38 zq3_2 zq3_3 H BK177 BK178 HB
       refine start_ (n:=6) (S:=fun w' => w'.cell? ⟨gb177,0,none⟩ = some (.int .i64 a0_0) ∧ w'.cell? ⟨gb177,1,none⟩ = some (.int .i64 a0_1) ∧ w'.cell? ⟨gb177,2,none⟩ = some (.slice A0_2 l0_2.length c0_2) ∧ w'.cell? ⟨gb177,3,none⟩ = some (.slice A0_3 l0_3.length c0_3) ∧ w'.cell? ⟨gb177,4,none⟩ = some (.int .i64 a0_4) ∧ w'.cell? ⟨gb177,5,none⟩ = some (.int .i64 a0_5) ∧ w'.cell? ⟨gb177,6,none⟩ = some (.int .i64 a0_6) ∧ w'.cell? ⟨gb177,7,none⟩ = some (.int .i64 a0_7) ∧ w'.cell? ⟨gb177,8,none⟩ = some (.int .i64 a0_8) ∧ w'.cell? ⟨gb177,9,none⟩ = some (.int .i64 a0_9) ∧ w'.cell? ⟨gb178,0,none⟩ = some (.int .i64 a1_0) ∧ w'.cell? ⟨gb178,1,none⟩ = some (.int .i64 a1_1) ∧ w'.cell? ⟨gb178,2,none⟩ = some (.slice A1_2 l1_2.length c1_2) ∧ w'.cell? ⟨gb178,3,none⟩ = some (.slice A1_3 l1_3.length c1_3) ∧ w'.cell? ⟨gb178,4,none⟩ = some (.int .i64 a1_4) ∧ w'.cell? ⟨gb178,5,none⟩ = some (.int .i64 a1_5) ∧ w'.cell? ⟨gb178,6,none⟩ = some (.int .i64 a1_6) ∧ w'.cell? ⟨gb178,7,none⟩ = some (.int .i64 a1_7) ∧ w'.cell? ⟨gb178,8,none⟩ = some (.int .i64 a1_8) ∧ w'.cell? ⟨gb178,9,none⟩ = some (.int .i64 a1_9)) (ds := []) (bm 6 0) (by kernel_rfl) rfl rfl ⟨(blk_cell BK177.out 0).trans rfl,(blk_cell BK177.out 1).trans rfl,(blk_cell BK177.out 2).trans rfl,(blk_cell BK177.out 3).trans rfl,(blk_cell BK177.out 4).trans rfl,(blk_cell BK177.out 5).trans rfl,(blk_cell BK177.out 6).trans rfl,(blk_cell BK177.out 7).trans rfl,(blk_cell BK177.out 8).trans rfl,(blk_cell BK177.out 9).trans rfl,(blk_cell BK178.out 0).trans rfl,(blk_cell BK178.out 1).trans rfl,(blk_cell BK178.out 2).trans rfl,(blk_cell BK178.out 3).trans rfl,(blk_cell BK178.out 4).trans rfl,(blk_cell BK178.out 5).trans rfl,(blk_cell BK178.out 6).trans rfl,(blk_cell BK178.out 7).trans rfl,(blk_cell BK178.out 8).trans rfl,(blk_cell BK178.out 9).trans rfl⟩ (fun hHeld => ?_)
       generalize w38.drew = w39 at BK177 BK178 HB hHeld ⊢
       refine take_ (i:=0) (N:=some 20) (v:=?_) (a':=?_) (bm 6 1) rfl rfl (by kernel_rfl) (fun _ _ _ h => h) (Or.inl ⟨by rfl,?_⟩) hHeld ?_ ?_
       rotate_left
       ·rintro w' ⟨s0,s1,s2,s3,s4,s5,s6,s7,s8,s9,s10,s11,s12,s13,s14,s15,s16,s17,s18,s19⟩
        go_simp
        with_reducible rfl
       rotate_left
       ·simp only [Act.put,setIfInBounds_toArray,set_cons_zero,set_cons_succ,i64_w,i32_w]
        rfl
       refine take_ (i:=2) (N:=some 22) (v:=?_) (a':=?_) (bm 6 5) rfl rfl (by kernel_rfl) (fun _ _ _ h => h) (Or.inl ⟨by rfl,?_⟩) hHeld ?_ ?_
       rotate_left
       ·rintro w' ⟨s0,s1,s2,s3,s4,s5,s6,s7,s8,s9,s10,s11,s12,s13,s14,s15,s16,s17,s18,s19⟩
        go_simp
        with_reducible rfl
       rotate_left
       ·simp only [Act.put,setIfInBounds_toArray,set_cons_zero,set_cons_succ,i64_w,i32_w]
        rfl
       refine one_ (i:=1) (N:=some 21) (bm 6 7) rfl rfl (by kernel_rfl) (by decide) (fun K hK => ?_)
       refine goes_ Try.func43 (by kernel_rfl) rfl #[.agg #[.int .i64 a0_0,.int .i64 a0_1,.slice A0_2 l0_2.length c0_2,.slice A0_3 l0_3.length c0_3,.int .i64 a0_4,.int .i64 a0_5,.int .i64 a0_6,.int .i64 a0_7,.int .i64 a0_8,.int .i64 a0_9]] (by rfl) rfl rfl mA ?_
       with_reducible refine (laws_toState.calls k a0_0 a0_1 _ _ l0_2 _ _ l0_3 a0_4 a0_5 a0_6 a0_7 a0_8 a0_9 t181 t182 t183 t186 t189 t190 t191 t192 t193 t194 _ ?side1 ?side2 ?side3 ?side4 A19.out).mono ?_
       (case side1 => repeat (first | exact (Kd.C_below HR0_2.out HB.out) | (with_reducible refine Kd.C_alloc ?_ _) | (with_reducible refine Kd.C_drewN ?_ _) | (with_reducible refine Kd.C_drew ?_)))
       (case side2 => exact HC0_2.out)
       (case side3 => repeat (first | exact (Kd.C_below HR0_3.out HB.out) | (with_reducible refine Kd.C_alloc ?_ _) | (with_reducible refine Kd.C_drewN ?_ _) | (with_reducible refine Kd.C_drew ?_)))
       (case side4 => exact HC0_3.out)
       rintro e w40 ⟨v184,v187,rfl,ho0,ho1,hb⟩
       refine ⟨_,rfl,?_⟩
       have n0_ := Aside0.mk (Kd.R_lower ho0 (below_size bA))
       have n1_ := Aside0.mk (Kd.R_lower ho1 (below_size bA))
       have n2_ := Aside0.mk (blk_below (g:=gb177) (o:=.cells #[.int .i64 a0_0,.int .i64 a0_1,.slice A0_2 l0_2.length c0_2,.slice A0_3 l0_3.length c0_3,.int .i64 a0_4,.int .i64 a0_5,.int .i64 a0_6,.int .i64 a0_7,.int .i64 a0_8,.int .i64 a0_9] 82 (0,0)) (kA BK177.out) hb)
       have n3_ := Aside0.mk (blk_below (g:=gb178) (o:=.cells #[.int .i64 a1_0,.int .i64 a1_1,.slice A1_2 l1_2.length c1_2,.slice A1_3 l1_3.length c1_3,.int .i64 a1_4,.int .i64 a1_5,.int .i64 a1_6,.int .i64 a1_7,.int .i64 a1_8,.int .i64 a1_9] 82 (0,0)) (kA BK178.out) hb)
       have n4_ := Aside0.mk (below_step bA hb)
       clear BK177
       clear BK178
       clear HB
       have HO185 := n0_
       have HO188 := n1_
       have BK177 := n2_
       have BK178 := n3_
       have HB := n4_
       clear n0_ n1_ n2_ n3_ n4_
       (try clear hb)
       (try clear hb2)
       (try clear hk)
       (try clear hi)
       (try clear ho0)
       (try clear ho1)
       refine hK.out _ _ ⟨(blk_cell BK177.out 0).trans rfl,(blk_cell BK177.out 1).trans rfl,(blk_cell BK177.out 2).trans rfl,(blk_cell BK177.out 3).trans rfl,(blk_cell BK177.out 4).trans rfl,(blk_cell BK177.out 5).trans rfl,(blk_cell BK177.out 6).trans rfl,(blk_cell BK177.out 7).trans rfl,(blk_cell BK177.out 8).trans rfl,(blk_cell BK177.out 9).trans rfl,(blk_cell BK178.out 0).trans rfl,(blk_cell BK178.out 1).trans rfl,(blk_cell BK178.out 2).trans rfl,(blk_cell BK178.out 3).trans rfl,(blk_cell BK178.out 4).trans rfl,(blk_cell BK178.out 5).trans rfl,(blk_cell BK178.out 6).trans rfl,(blk_cell BK178.out 7).trans rfl,(blk_cell BK178.out 8).trans rfl,(blk_cell BK178.out 9).trans rfl⟩ (fun hHeld => ?_)
       clear hK K
       refine norm_ (a':=?_) ?_ ?_
       rotate_left
       ·show Act.put _ (some 21) _ = _
        simp only [Act.put,setIfInBounds_toArray,set_cons_zero,set_cons_succ,i64_w,i32_w]
        rfl
       refine one_ (i:=3) (N:=some 23) (bm 6 15) rfl rfl (by kernel_rfl) (by decide) (fun K hK => ?_)
       refine goes_ Try.func43 (by kernel_rfl) rfl #[.agg #[.int .i64 a1_0,.int .i64 a1_1,.slice A1_2 l1_2.length c1_2,.slice A1_3 l1_3.length c1_3,.int .i64 a1_4,.int .i64 a1_5,.int .i64 a1_6,.int .i64 a1_7,.int .i64 a1_8,.int .i64 a1_9]] (by rfl) rfl rfl mA ?_
       with_reducible refine (laws_toState.calls k a1_0 a1_1 _ _ l1_2 _ _ l1_3 a1_4 a1_5 a1_6 a1_7 a1_8 a1_9 t195 t196 t197 t200 t203 t204 t205 t206 t207 t208 _ ?side1 ?side2 ?side3 ?side4 A20.out).mono ?_
       (case side1 => repeat (first | exact (Kd.C_below HR1_2.out HB.out) | (with_reducible refine Kd.C_alloc ?_ _) | (with_reducible refine Kd.C_drewN ?_ _) | (with_reducible refine Kd.C_drew ?_)))
       (case side2 => exact HC1_2.out)
       (case side3 => repeat (first | exact (Kd.C_below HR1_3.out HB.out) | (with_reducible refine Kd.C_alloc ?_ _) | (with_reducible refine Kd.C_drewN ?_ _) | (with_reducible refine Kd.C_drew ?_)))
       (case side4 => exact HC1_3.out)
       rintro e w41 ⟨v198,v201,rfl,ho0,ho1,hb⟩
       refine ⟨_,rfl,?_⟩
       have n0_ := Aside0.mk (Kd.R_elder' (rA HO185.out) (Kd.R_base ho0) hb)
       have n1_ := Aside0.mk (Kd.R_elder' (rA HO188.out) (Kd.R_base ho1) hb)
       have n2_ := Aside0.mk (Kd.R_lower (Kd.R_new' ho0 (Kd.R_lt (rA HO185.out))) (below_size bA))
       have n3_ := Aside0.mk (Kd.R_lower (Kd.R_new' ho1 (Kd.R_lt (rA HO188.out))) (below_size bA))
       have n4_ := Aside0.mk (blk_below (g:=gb177) (o:=.cells #[.int .i64 a0_0,.int .i64 a0_1,.slice A0_2 l0_2.length c0_2,.slice A0_3 l0_3.length c0_3,.int .i64 a0_4,.int .i64 a0_5,.int .i64 a0_6,.int .i64 a0_7,.int .i64 a0_8,.int .i64 a0_9] 82 (0,0)) (kA BK177.out) hb)
       have n5_ := Aside0.mk (blk_below (g:=gb178) (o:=.cells #[.int .i64 a1_0,.int .i64 a1_1,.slice A1_2 l1_2.length c1_2,.slice A1_3 l1_3.length c1_3,.int .i64 a1_4,.int .i64 a1_5,.int .i64 a1_6,.int .i64 a1_7,.int .i64 a1_8,.int .i64 a1_9] 82 (0,0)) (kA BK178.out) hb)
       have n6_ := Aside0.mk (below_step bA hb)
       clear HO185
       clear HO188
       clear BK177
       clear BK178
       clear HB
       have HO185 := n0_
       have HO188 := n1_
       have HO199 := n2_
       have HO202 := n3_
       have BK177 := n4_
       have BK178 := n5_
       have HB := n6_
       clear n0_ n1_ n2_ n3_ n4_ n5_ n6_
       (try clear hb)
       (try clear hb2)
       (try clear hk)
       (try clear hi)
       (try clear ho0)
       (try clear ho1)
       obtain ⟨Ao42,co42,eo42⟩ := Kd.R_slice HO185.out
       (first | subst eo42 | (injection eo42 with f1_ f2_ f3_; have f4_ := f1_.symm; have f5_ := f3_.symm; clear f1_ f2_ f3_; subst f4_; subst f5_))
       obtain ⟨Ao43,co43,eo43⟩ := Kd.R_slice HO188.out
       (first | subst eo43 | (injection eo43 with f1_ f2_ f3_; have f4_ := f1_.symm; have f5_ := f3_.symm; clear f1_ f2_ f3_; subst f4_; subst f5_))
       obtain ⟨Ao44,co44,eo44⟩ := Kd.R_slice HO199.out
       (first | subst eo44 | (injection eo44 with f1_ f2_ f3_; have f4_ := f1_.symm; have f5_ := f3_.symm; clear f1_ f2_ f3_; subst f4_; subst f5_))
       obtain ⟨Ao45,co45,eo45⟩ := Kd.R_slice HO202.out
       (first | subst eo45 | (injection eo45 with f1_ f2_ f3_; have f4_ := f1_.symm; have f5_ := f3_.symm; clear f1_ f2_ f3_; subst f4_; subst f5_))
       refine hK.out _ _ ⟨(blk_cell BK177.out 0).trans rfl,(blk_cell BK177.out 1).trans rfl,(blk_cell BK177.out 2).trans rfl,(blk_cell BK177.out 3).trans rfl,(blk_cell BK177.out 4).trans rfl,(blk_cell BK177.out 5).trans rfl,(blk_cell BK177.out 6).trans rfl,(blk_cell BK177.out 7).trans rfl,(blk_cell BK177.out 8).trans rfl,(blk_cell BK177.out 9).trans rfl,(blk_cell BK178.out 0).trans rfl,(blk_cell BK178.out 1).trans rfl,(blk_cell BK178.out 2).trans rfl,(blk_cell BK178.out 3).trans rfl,(blk_cell BK178.out 4).trans rfl,(blk_cell BK178.out 5).trans rfl,(blk_cell BK178.out 6).trans rfl,(blk_cell BK178.out 7).trans rfl,(blk_cell BK178.out 8).trans rfl,(blk_cell BK178.out 9).trans rfl⟩ (fun hHeld => ?_)
       clear hK K
       refine norm_ (a':=?_) ?_ ?_
       rotate_left
       ·show Act.put _ (some 23) _ = _
        simp only [Act.put,setIfInBounds_toArray,set_cons_zero,set_cons_succ,i64_w,i32_w]
        rfl
       refine one_ (i:=4) (N:=some 24) (bm 6 31) rfl rfl (by kernel_rfl) (by decide) (fun K hK => ?_)
       refine goes_ Try.func42 (by kernel_rfl) rfl #[.agg #[.int .i64 t181,.int .i64 t182,.slice Ao42 t183.length co42,.slice Ao43 t186.length co43,.int .i64 t189,.int .i64 t190,.int .i64 t191,.int .i64 t192,.int .i64 t193,.int .i64 t194],.agg #[.int .i64 t195,.int .i64 t196,.slice Ao44 t197.length co44,.slice Ao45 t200.length co45,.int .i64 t203,.int .i64 t204,.int .i64 t205,.int .i64 t206,.int .i64 t207,.int .i64 t208]] (by rfl) rfl rfl mA ?_
       with_reducible refine (spec_SameState.calls k t181 t182 _ _ t183 _ _ t186 t189 t190 t191 t192 t193 t194 t195 t196 _ _ t197 _ _ t200 t203 t204 t205 t206 t207 t208 t209 _ ?side1 ?side2 ?side3 ?side4 ?side5 ?side6 ?side7 ?side8 A21.out).mono ?_
       (case side1 => repeat (first | exact (Kd.R_reads' HO185.out).2.2 | (with_reducible refine Kd.C_alloc ?_ _) | (with_reducible refine Kd.C_drewN ?_ _) | (with_reducible refine Kd.C_drew ?_)))
       (case side2 => exact (Kd.R_reads' HO185.out).2.1)
       (case side3 => repeat (first | exact (Kd.R_reads' HO188.out).2.2 | (with_reducible refine Kd.C_alloc ?_ _) | (with_reducible refine Kd.C_drewN ?_ _) | (with_reducible refine Kd.C_drew ?_)))
       (case side4 => exact (Kd.R_reads' HO188.out).2.1)
       (case side5 => repeat (first | exact (Kd.R_reads' HO199.out).2.2 | (with_reducible refine Kd.C_alloc ?_ _) | (with_reducible refine Kd.C_drewN ?_ _) | (with_reducible refine Kd.C_drew ?_)))
       (case side6 => exact (Kd.R_reads' HO199.out).2.1)
       (case side7 => repeat (first | exact (Kd.R_reads' HO202.out).2.2 | (with_reducible refine Kd.C_alloc ?_ _) | (with_reducible refine Kd.C_drewN ?_ _) | (with_reducible refine Kd.C_drew ?_)))
       (case side8 => exact (Kd.R_reads' HO202.out).2.1)
       rintro e w46 ⟨rfl,hb⟩
       refine ⟨_,rfl,?_⟩
       have n0_ := Aside0.mk (Kd.R_below (rA HO185.out) hb)
       have n1_ := Aside0.mk (Kd.R_below (rA HO188.out) hb)
       have n2_ := Aside0.mk (Kd.R_below (rA HO199.out) hb)
       have n3_ := Aside0.mk (Kd.R_below (rA HO202.out) hb)
       have n4_ := Aside0.mk (blk_below (g:=gb177) (o:=.cells #[.int .i64 a0_0,.int .i64 a0_1,.slice A0_2 l0_2.length c0_2,.slice A0_3 l0_3.length c0_3,.int .i64 a0_4,.int .i64 a0_5,.int .i64 a0_6,.int .i64 a0_7,.int .i64 a0_8,.int .i64 a0_9] 82 (0,0)) (kA BK177.out) hb)
       have n5_ := Aside0.mk (blk_below (g:=gb178) (o:=.cells #[.int .i64 a1_0,.int .i64 a1_1,.slice A1_2 l1_2.length c1_2,.slice A1_3 l1_3.length c1_3,.int .i64 a1_4,.int .i64 a1_5,.int .i64 a1_6,.int .i64 a1_7,.int .i64 a1_8,.int .i64 a1_9] 82 (0,0)) (kA BK178.out) hb)
       have n6_ := Aside0.mk (below_step bA hb)
       clear HO185
       clear HO188
       clear HO199
       clear HO202
       clear BK177
       clear BK178
       clear HB
       have HO185 := n0_
       have HO188 := n1_
       have HO199 := n2_
       have HO202 := n3_
       have BK177 := n4_
       have BK178 := n5_
       have HB := n6_
       clear n0_ n1_ n2_ n3_ n4_ n5_ n6_
       (try clear hb)
       (try clear hb2)
       (try clear hk)
       (try clear hi)
       refine hK.out _ _ ⟨(blk_cell BK177.out 0).trans rfl,(blk_cell BK177.out 1).trans rfl,(blk_cell BK177.out 2).trans rfl,(blk_cell BK177.out 3).trans rfl,(blk_cell BK177.out 4).trans rfl,(blk_cell BK177.out 5).trans rfl,(blk_cell BK177.out 6).trans rfl,(blk_cell BK177.out 7).trans rfl,(blk_cell BK177.out 8).trans rfl,(blk_cell BK177.out 9).trans rfl,(blk_cell BK178.out 0).trans rfl,(blk_cell BK178.out 1).trans rfl,(blk_cell BK178.out 2).trans rfl,(blk_cell BK178.out 3).trans rfl,(blk_cell BK178.out 4).trans rfl,(blk_cell BK178.out 5).trans rfl,(blk_cell BK178.out 6).trans rfl,(blk_cell BK178.out 7).trans rfl,(blk_cell BK178.out 8).trans rfl,(blk_cell BK178.out 9).trans rfl⟩ (fun hHeld => ?_)
       clear hK K
       refine norm_ (a':=?_) ?_ ?_
       rotate_left
       ·show Act.put _ (some 24) _ = _
        simp only [Act.put,setIfInBounds_toArray,set_cons_zero,set_cons_succ,i64_w,i32_w]
        rfl
       refine pure_ (i:=5) (N:=some 6) (v:=?_) (a':=?_) (bm 6 63) rfl rfl (by kernel_rfl) (fun _ _ _ h => h) (Or.inl ⟨by rfl,?_⟩) ?_ ?_
       rotate_left
       ·intro w'
        go_simp
        with_reducible rfl
       rotate_left
       ·simp only [Act.put,setIfInBounds_toArray,set_cons_zero,set_cons_succ,i64_w,i32_w]
        rfl
       refine done_ (by kernel_rfl) ?_
       have hcz47_0 : w46.cell? ⟨gb177,0,none⟩ = some (.int .i64 a0_0) := (blk_cell BK177.out 0).trans rfl
       have hcz47_1 : w46.cell? ⟨gb177,1,none⟩ = some (.int .i64 a0_1) := (blk_cell BK177.out 1).trans rfl
       have hcz47_2 : w46.cell? ⟨gb177,2,none⟩ = some (.slice A0_2 l0_2.length c0_2) := (blk_cell BK177.out 2).trans rfl
       have hcz47_3 : w46.cell? ⟨gb177,3,none⟩ = some (.slice A0_3 l0_3.length c0_3) := (blk_cell BK177.out 3).trans rfl
       have hcz47_4 : w46.cell? ⟨gb177,4,none⟩ = some (.int .i64 a0_4) := (blk_cell BK177.out 4).trans rfl
       have hcz47_5 : w46.cell? ⟨gb177,5,none⟩ = some (.int .i64 a0_5) := (blk_cell BK177.out 5).trans rfl
       have hcz47_6 : w46.cell? ⟨gb177,6,none⟩ = some (.int .i64 a0_6) := (blk_cell BK177.out 6).trans rfl
       have hcz47_7 : w46.cell? ⟨gb177,7,none⟩ = some (.int .i64 a0_7) := (blk_cell BK177.out 7).trans rfl
       have hcz47_8 : w46.cell? ⟨gb177,8,none⟩ = some (.int .i64 a0_8) := (blk_cell BK177.out 8).trans rfl
       have hcz47_9 : w46.cell? ⟨gb177,9,none⟩ = some (.int .i64 a0_9) := (blk_cell BK177.out 9).trans rfl
       have hfz47_0 := blk_frozen BK177.out 0
       have hfz47_1 := blk_frozen BK177.out 1
       have hfz47_2 := blk_frozen BK177.out 2
       have hfz47_3 := blk_frozen BK177.out 3
       have hfz47_4 := blk_frozen BK177.out 4
       have hfz47_5 := blk_frozen BK177.out 5
       have hfz47_6 := blk_frozen BK177.out 6
       have hfz47_7 := blk_frozen BK177.out 7
       have hfz47_8 := blk_frozen BK177.out 8
       have hfz47_9 := blk_frozen BK177.out 9
       rename_i zp4_1 zp4_2 zp4_3; revert k a0_0 a0_1 A0_2 c0_2 l0_2 A0_3 c0_3 l0_3 a0_4 a0_5 a0_6 a0_7 a0_8 a0_9 a1_0 a1_1 A1_2 c1_2 l1_2 A1_3 c1_3 l1_3 a1_4 a1_5 a1_6 a1_7 a1_8 a1_9 w hu82 hu87 HR0_2 HC0_2 HR0_3 HC0_3 HR1_2 HC1_2 HR1_3 HC1_3 t179 A3 c4b0 t180 A10 c11b0 t181 t182 t183 t186 t189 t190 t191 t192 t193 t194 A19 t195 t196 t197 t200 t203 t204 t205 t206 t207 t208 A20 t209 A21 t210 t211 t212 t215 t218 t219 t220 t221 t222 t223 A22 t225 t226 t227 t230 t233 t234 t235 t236 t237 t238 A23 t240 A24 c25b0 c25b1 c25b2 t241 t242 t243 t246 t249 t250 t251 t252 t253 t254 A26 A27 t256 t257 t258 t261 t264 t265 t266 t267 t268 t269 A29 A30 zq3_1 gb177 w32 GW177 GE177 gb178 w33 GW178 GE178 NB177_178 NB178_177 hnb34 hnc34 hcz35_0 hcz35_1 hcz35_2 hcz35_3 hcz35_4 hcz35_5 hcz35_6 hcz35_7 hcz35_8 hcz35_9 hfz35_0 hfz35_1 hfz35_2 hfz35_3 hfz35_4 hfz35_5 hfz35_6 hfz35_7 hfz35_8 hfz35_9 w36 hcz37_0 hcz37_1 hcz37_2 hcz37_3 hcz37_4 hcz37_5 hcz37_6 hcz37_7 hcz37_8 hcz37_9 hfz37_0 hfz37_1 hfz37_2 hfz37_3 hfz37_4 hfz37_5 hfz37_6 hfz37_7 hfz37_8 hfz37_9 w38 zq3_2 zq3_3 H w39 zp4_1 w40 zp4_2 w41 Ao42 co42 Ao43 co43 Ao44 co44 Ao45 co45 zp4_3 w46 HO185 HO188 HO199 HO202 BK177 BK178 HB hHeld hcz47_0 hcz47_1 hcz47_2 hcz47_3 hcz47_4 hcz47_5 hcz47_6 hcz47_7 hcz47_8 hcz47_9 hfz47_0 hfz47_1 hfz47_2 hfz47_3 hfz47_4 hfz47_5 hfz47_6 hfz47_7 hfz47_8 hfz47_9; exact hm_.out
set_option maxHeartbeats 8000000 in
set_option maxRecDepth 100000 in
noncomputable def FnExactSameState_cut5 : PSigma (fun M_ : Prop => CutW M_ → FnExactSameState_cut4.1) := by
      apply PSigma.mk
      case snd =>
       intro hm_
       intro k a0_0 a0_1 A0_2 c0_2 l0_2 A0_3 c0_3 l0_3 a0_4 a0_5 a0_6 a0_7 a0_8 a0_9 a1_0 a1_1 A1_2 c1_2 l1_2 A1_3 c1_3 l1_3 a1_4 a1_5 a1_6 a1_7 a1_8 a1_9 w hu82 hu87 HR0_2 HC0_2 HR0_3 HC0_3 HR1_2 HC1_2 HR1_3 HC1_3 t179 A3 c4b0 t180 A10 c11b0 t181 t182 t183 t186 t189 t190 t191 t192 t193 t194 A19 t195 t196 t197 t200 t203 t204 t205 t206 t207 t208 A20 t209 A21 t210 t211 t212 t215 t218 t219 t220 t221 t222 t223 A22 t225 t226 t227 t230 t233 t234 t235 t236 t237 t238 A23 t240 A24 c25b0 c25b1 c25b2 t241 t242 t243 t246 t249 t250 t251 t252 t253 t254 A26 A27 t256 t257 t258 t261 t264 t265 t266 t267 t268 t269 A29 A30 zq4_1 gb177 w32 GW177 GE177 gb178 w33 GW178 GE178 NB177_178 NB178_177 hnb34 hnc34 hcz35_0 hcz35_1 hcz35_2 hcz35_3 hcz35_4 hcz35_5 hcz35_6 hcz35_7 hcz35_8 hcz35_9 hfz35_0 hfz35_1 hfz35_2 hfz35_3 hfz35_4 hfz35_5 hfz35_6 hfz35_7 hfz35_8 hfz35_9 w36 hcz37_0 hcz37_1 hcz37_2 hcz37_3 hcz37_4 hcz37_5 hcz37_6 hcz37_7 hcz37_8 hcz37_9 hfz37_0 hfz37_1 hfz37_2 hfz37_3 hfz37_4 hfz37_5 hfz37_6 hfz37_7 hfz37_8 hfz37_9 w38 zq4_2 zq4_3 H w39 zq4_4 w40 zq4_5 w41 Ao42 co42 Ao43 co43 Ao44 co44 Ao45 co45 zq4_6 w46 HO185 HO188 HO199 HO202 BK177 BK178 HB hHeld hcz47_0 hcz47_1 hcz47_2 hcz47_3 hcz47_4 hcz47_5 hcz47_6 hcz47_7 hcz47_8 hcz47_9 hfz47_0 hfz47_1 hfz47_2 hfz47_3 hfz47_4 hfz47_5 hfz47_6 hfz47_7 hfz47_8 hfz47_9
       go_upto_region 10 with (first | ((with_reducible refine gate_callee (f:=43) rfl ?_); refine goesL_ (some 26) rfl rfl Try.func43 (by kernel_rfl) rfl #[.agg #[.int .i64 a0_0,.int .i64 a0_1,.slice A0_2 l0_2.length c0_2,.slice A0_3 l0_3.length c0_3,.int .i64 a0_4,.int .i64 a0_5,.int .i64 a0_6,.int .i64 a0_7,.int .i64 a0_8,.int .i64 a0_9]] rfl mA ?_; (with_reducible refine (laws_toState.calls k a0_0 a0_1 _ _ l0_2 _ _ l0_3 a0_4 a0_5 a0_6 a0_7 a0_8 a0_9 t210 t211 t212 t215 t218 t219 t220 t221 t222 t223 _ ?side1 ?side2 ?side3 ?side4 A22.out).mono ?_); (case side1 => repeat (first | exact (Kd.C_below HR0_2.out HB.out) | (with_reducible refine Kd.C_alloc ?_ _) | (with_reducible refine Kd.C_drewN ?_ _) | (with_reducible refine Kd.C_drew ?_))); (case side2 => exact HC0_2.out); (case side3 => repeat (first | exact (Kd.C_below HR0_3.out HB.out) | (with_reducible refine Kd.C_alloc ?_ _) | (with_reducible refine Kd.C_drewN ?_ _) | (with_reducible refine Kd.C_drew ?_))); (case side4 => exact HC0_3.out); rintro e w48 ⟨v213,v216,rfl,ho0,ho1,hb⟩; refine ⟨_,rfl,?_⟩; have n0_ := Aside0.mk (Kd.R_elder' (rA HO185.out) (Kd.R_base ho0) hb); have n1_ := Aside0.mk (Kd.R_elder' (rA HO188.out) (Kd.R_base ho1) hb); have n2_ := Aside0.mk (Kd.R_elder' (rA HO199.out) (Kd.R_base ho0) hb); have n3_ := Aside0.mk (Kd.R_elder' (rA HO202.out) (Kd.R_base ho1) hb); have n4_ := Aside0.mk (Kd.R_lower (Kd.R_new' (Kd.R_new' ho0 (Kd.R_lt (rA HO185.out))) (Kd.R_lt (rA HO199.out))) (below_size bA)); have n5_ := Aside0.mk (Kd.R_lower (Kd.R_new' (Kd.R_new' ho1 (Kd.R_lt (rA HO188.out))) (Kd.R_lt (rA HO202.out))) (below_size bA)); have n6_ := Aside0.mk (blk_below (g:=gb177) (o:=.cells #[.int .i64 a0_0,.int .i64 a0_1,.slice A0_2 l0_2.length c0_2,.slice A0_3 l0_3.length c0_3,.int .i64 a0_4,.int .i64 a0_5,.int .i64 a0_6,.int .i64 a0_7,.int .i64 a0_8,.int .i64 a0_9] 82 (0,0)) (kA BK177.out) hb); have n7_ := Aside0.mk (blk_below (g:=gb178) (o:=.cells #[.int .i64 a1_0,.int .i64 a1_1,.slice A1_2 l1_2.length c1_2,.slice A1_3 l1_3.length c1_3,.int .i64 a1_4,.int .i64 a1_5,.int .i64 a1_6,.int .i64 a1_7,.int .i64 a1_8,.int .i64 a1_9] 82 (0,0)) (kA BK178.out) hb); have n8_ := Aside0.mk (below_step bA hb); clear HO185; clear HO188; clear HO199; clear HO202; clear BK177; clear BK178; clear HB; have HO185 := n0_; have HO188 := n1_; have HO199 := n2_; have HO202 := n3_; have HO214 := n4_; have HO217 := n5_; have BK177 := n6_; have BK178 := n7_; have HB := n8_; clear n0_ n1_ n2_ n3_ n4_ n5_ n6_ n7_ n8_; (try clear hb); (try clear hb2); (try clear hk); (try clear hi); (try clear ho0); (try clear ho1)) | ((with_reducible refine gate_dst (N:=7) rfl ?_); refine box_event ?hg (N:=7) ?hd (cs := #[.int .i64 0,.int .i64 0,.slice none 0 0,.slice none 0 0,.int .i64 0,.int .i64 0,.int .i64 0,.int .i64 0,.int .i64 0,.int .i64 0]) (t:=87) ?hr ?_; (case hd => rfl); (case hg => rfl); (case hr => first | (go_simp; done) | (go_simp; rfl)); intro gb224 hg w49 hbox hb; have n0_ := Aside0.mk (Kd.R_below (rA HO185.out) hb); have n1_ := Aside0.mk (Kd.R_below (rA HO188.out) hb); have n2_ := Aside0.mk (Kd.R_below (rA HO199.out) hb); have n3_ := Aside0.mk (Kd.R_below (rA HO202.out) hb); have n4_ := Aside0.mk (Kd.R_below (rA HO214.out) hb); have n5_ := Aside0.mk (Kd.R_below (rA HO217.out) hb); have n6_ := Aside0.mk (blk_below (g:=gb177) (o:=.cells #[.int .i64 a0_0,.int .i64 a0_1,.slice A0_2 l0_2.length c0_2,.slice A0_3 l0_3.length c0_3,.int .i64 a0_4,.int .i64 a0_5,.int .i64 a0_6,.int .i64 a0_7,.int .i64 a0_8,.int .i64 a0_9] 82 (0,0)) (kA BK177.out) hb); have n7_ := Aside0.mk (blk_below (g:=gb178) (o:=.cells #[.int .i64 a1_0,.int .i64 a1_1,.slice A1_2 l1_2.length c1_2,.slice A1_3 l1_3.length c1_3,.int .i64 a1_4,.int .i64 a1_5,.int .i64 a1_6,.int .i64 a1_7,.int .i64 a1_8,.int .i64 a1_9] 82 (0,0)) (kA BK178.out) hb); have n8_ := Aside0.mk (below_step bA hb); have n9_ := Aside0.mk (hbox); have n10_ := Aside0.mk ((by rw [hg]; exact (below_size bA) : w.heap.size ≤ gb224)); have n11_ := Aside0.mk ((by rw [hg]; exact (below_size bA) : w.heap.size ≤ gb224)); have n12_ := Aside0.mk ((by rw [hg]; exact Nat.ne_of_lt (blk_lt (g:=gb177) (o:=.cells #[.int .i64 a0_0,.int .i64 a0_1,.slice A0_2 l0_2.length c0_2,.slice A0_3 l0_3.length c0_3,.int .i64 a0_4,.int .i64 a0_5,.int .i64 a0_6,.int .i64 a0_7,.int .i64 a0_8,.int .i64 a0_9] 82 (0,0)) (kA BK177.out)) : gb177 ≠ gb224)); have n13_ := Aside0.mk ((by rw [hg]; exact Nat.ne_of_gt (blk_lt (g:=gb177) (o:=.cells #[.int .i64 a0_0,.int .i64 a0_1,.slice A0_2 l0_2.length c0_2,.slice A0_3 l0_3.length c0_3,.int .i64 a0_4,.int .i64 a0_5,.int .i64 a0_6,.int .i64 a0_7,.int .i64 a0_8,.int .i64 a0_9] 82 (0,0)) (kA BK177.out)) : gb224 ≠ gb177)); have n14_ := Aside0.mk ((by rw [hg]; exact Nat.ne_of_lt (blk_lt (g:=gb178) (o:=.cells #[.int .i64 a1_0,.int .i64 a1_1,.slice A1_2 l1_2.length c1_2,.slice A1_3 l1_3.length c1_3,.int .i64 a1_4,.int .i64 a1_5,.int .i64 a1_6,.int .i64 a1_7,.int .i64 a1_8,.int .i64 a1_9] 82 (0,0)) (kA BK178.out)) : gb178 ≠ gb224)); have n15_ := Aside0.mk ((by rw [hg]; exact Nat.ne_of_gt (blk_lt (g:=gb178) (o:=.cells #[.int .i64 a1_0,.int .i64 a1_1,.slice A1_2 l1_2.length c1_2,.slice A1_3 l1_3.length c1_3,.int .i64 a1_4,.int .i64 a1_5,.int .i64 a1_6,.int .i64 a1_7,.int .i64 a1_8,.int .i64 a1_9] 82 (0,0)) (kA BK178.out)) : gb224 ≠ gb178)); clear HO185; clear HO188; clear HO199; clear HO202; clear HO214; clear HO217; clear BK177; clear BK178; clear HB; have HO185 := n0_; have HO188 := n1_; have HO199 := n2_; have HO202 := n3_; have HO214 := n4_; have HO217 := n5_; have BK177 := n6_; have BK178 := n7_; have HB := n8_; have BK224 := n9_; have GW224 := n10_; have GE224 := n11_; have NB177_224 := n12_; have NB224_177 := n13_; have NB178_224 := n14_; have NB224_178 := n15_; clear n0_ n1_ n2_ n3_ n4_ n5_ n6_ n7_ n8_ n9_ n10_ n11_ n12_ n13_ n14_ n15_; clear hb hbox hg; have hnb50 := NB224_177.out; have hnc50 := NB177_224.out; have hnb51 := NB224_178.out; have hnc51 := NB178_224.out; have hcz52_0 : w49.cell? ⟨gb224,0,none⟩ = some (.int .i64 0) := (blk_cell BK224.out 0).trans rfl; have hcz52_1 : w49.cell? ⟨gb224,1,none⟩ = some (.int .i64 0) := (blk_cell BK224.out 1).trans rfl; have hcz52_2 : w49.cell? ⟨gb224,2,none⟩ = some (.slice none 0 0) := (blk_cell BK224.out 2).trans rfl; have hcz52_3 : w49.cell? ⟨gb224,3,none⟩ = some (.slice none 0 0) := (blk_cell BK224.out 3).trans rfl; have hcz52_4 : w49.cell? ⟨gb224,4,none⟩ = some (.int .i64 0) := (blk_cell BK224.out 4).trans rfl; have hcz52_5 : w49.cell? ⟨gb224,5,none⟩ = some (.int .i64 0) := (blk_cell BK224.out 5).trans rfl; have hcz52_6 : w49.cell? ⟨gb224,6,none⟩ = some (.int .i64 0) := (blk_cell BK224.out 6).trans rfl; have hcz52_7 : w49.cell? ⟨gb224,7,none⟩ = some (.int .i64 0) := (blk_cell BK224.out 7).trans rfl; have hcz52_8 : w49.cell? ⟨gb224,8,none⟩ = some (.int .i64 0) := (blk_cell BK224.out 8).trans rfl; have hcz52_9 : w49.cell? ⟨gb224,9,none⟩ = some (.int .i64 0) := (blk_cell BK224.out 9).trans rfl; have hfz52_0 := blk_frozen BK224.out 0; have hfz52_1 := blk_frozen BK224.out 1; have hfz52_2 := blk_frozen BK224.out 2; have hfz52_3 := blk_frozen BK224.out 3; have hfz52_4 := blk_frozen BK224.out 4; have hfz52_5 := blk_frozen BK224.out 5; have hfz52_6 := blk_frozen BK224.out 6; have hfz52_7 := blk_frozen BK224.out 7; have hfz52_8 := blk_frozen BK224.out 8; have hfz52_9 := blk_frozen BK224.out 9; obtain ⟨Ao53,co53,eo53⟩ := Kd.R_slice HO214.out; subst eo53; obtain ⟨Ao54,co54,eo54⟩ := Kd.R_slice HO217.out; subst eo54; have hcz55_0 : w49.cell? ⟨gb178,0,none⟩ = some (.int .i64 a1_0) := (blk_cell BK178.out 0).trans rfl; have hcz55_1 : w49.cell? ⟨gb178,1,none⟩ = some (.int .i64 a1_1) := (blk_cell BK178.out 1).trans rfl; have hcz55_2 : w49.cell? ⟨gb178,2,none⟩ = some (.slice A1_2 l1_2.length c1_2) := (blk_cell BK178.out 2).trans rfl; have hcz55_3 : w49.cell? ⟨gb178,3,none⟩ = some (.slice A1_3 l1_3.length c1_3) := (blk_cell BK178.out 3).trans rfl; have hcz55_4 : w49.cell? ⟨gb178,4,none⟩ = some (.int .i64 a1_4) := (blk_cell BK178.out 4).trans rfl; have hcz55_5 : w49.cell? ⟨gb178,5,none⟩ = some (.int .i64 a1_5) := (blk_cell BK178.out 5).trans rfl; have hcz55_6 : w49.cell? ⟨gb178,6,none⟩ = some (.int .i64 a1_6) := (blk_cell BK178.out 6).trans rfl; have hcz55_7 : w49.cell? ⟨gb178,7,none⟩ = some (.int .i64 a1_7) := (blk_cell BK178.out 7).trans rfl; have hcz55_8 : w49.cell? ⟨gb178,8,none⟩ = some (.int .i64 a1_8) := (blk_cell BK178.out 8).trans rfl; have hcz55_9 : w49.cell? ⟨gb178,9,none⟩ = some (.int .i64 a1_9) := (blk_cell BK178.out 9).trans rfl; have hfz55_0 := blk_frozen BK178.out 0; have hfz55_1 := blk_frozen BK178.out 1; have hfz55_2 := blk_frozen BK178.out 2; have hfz55_3 := blk_frozen BK178.out 3; have hfz55_4 := blk_frozen BK178.out 4; have hfz55_5 := blk_frozen BK178.out 5; have hfz55_6 := blk_frozen BK178.out 6; have hfz55_7 := blk_frozen BK178.out 7; have hfz55_8 := blk_frozen BK178.out 8; have hfz55_9 := blk_frozen BK178.out 9))
       rename_i zp5_1 zp5_2; revert k a0_0 a0_1 A0_2 c0_2 l0_2 A0_3 c0_3 l0_3 a0_4 a0_5 a0_6 a0_7 a0_8 a0_9 a1_0 a1_1 A1_2 c1_2 l1_2 A1_3 c1_3 l1_3 a1_4 a1_5 a1_6 a1_7 a1_8 a1_9 w hu82 hu87 HR0_2 HC0_2 HR0_3 HC0_3 HR1_2 HC1_2 HR1_3 HC1_3 t179 A3 c4b0 t180 A10 c11b0 t181 t182 t183 t186 t189 t190 t191 t192 t193 t194 A19 t195 t196 t197 t200 t203 t204 t205 t206 t207 t208 A20 t209 A21 t210 t211 t212 t215 t218 t219 t220 t221 t222 t223 A22 t225 t226 t227 t230 t233 t234 t235 t236 t237 t238 A23 t240 A24 c25b0 c25b1 c25b2 t241 t242 t243 t246 t249 t250 t251 t252 t253 t254 A26 A27 t256 t257 t258 t261 t264 t265 t266 t267 t268 t269 A29 A30 zq4_1 gb177 w32 GW177 GE177 gb178 w33 GW178 GE178 NB177_178 NB178_177 hnb34 hnc34 hcz35_0 hcz35_1 hcz35_2 hcz35_3 hcz35_4 hcz35_5 hcz35_6 hcz35_7 hcz35_8 hcz35_9 hfz35_0 hfz35_1 hfz35_2 hfz35_3 hfz35_4 hfz35_5 hfz35_6 hfz35_7 hfz35_8 hfz35_9 w36 hcz37_0 hcz37_1 hcz37_2 hcz37_3 hcz37_4 hcz37_5 hcz37_6 hcz37_7 hcz37_8 hcz37_9 hfz37_0 hfz37_1 hfz37_2 hfz37_3 hfz37_4 hfz37_5 hfz37_6 hfz37_7 hfz37_8 hfz37_9 w38 H w39 zq4_4 w40 zq4_5 w41 Ao42 co42 Ao43 co43 Ao44 co44 Ao45 co45 zq4_6 w46 hHeld hcz47_0 hcz47_1 hcz47_2 hcz47_3 hcz47_4 hcz47_5 hcz47_6 hcz47_7 hcz47_8 hcz47_9 hfz47_0 hfz47_1 hfz47_2 hfz47_3 hfz47_4 hfz47_5 hfz47_6 hfz47_7 hfz47_8 hfz47_9 w48 gb224 w49 BK177 BK178 HB BK224 GW224 GE224 NB177_224 NB224_177 NB178_224 NB224_178 hnb50 hnc50 hnb51 hnc51 hcz52_0 hcz52_1 hcz52_2 hcz52_3 hcz52_4 hcz52_5 hcz52_6 hcz52_7 hcz52_8 hcz52_9 hfz52_0 hfz52_1 hfz52_2 hfz52_3 hfz52_4 hfz52_5 hfz52_6 hfz52_7 hfz52_8 hfz52_9 Ao53 co53 HO185 HO199 HO214 Ao54 co54 HO188 HO202 HO217 hcz55_0 hcz55_1 hcz55_2 hcz55_3 hcz55_4 hcz55_5 hcz55_6 hcz55_7 hcz55_8 hcz55_9 hfz55_0 hfz55_1 hfz55_2 hfz55_3 hfz55_4 hfz55_5 hfz55_6 hfz55_7 hfz55_8 hfz55_9 zp5_1 zp5_2; exact hm_.out
set_option maxHeartbeats 8000000 in
set_option maxRecDepth 100000 in
noncomputable def FnExactSameState_cut6 : PSigma (fun M_ : Prop => CutW M_ → FnExactSameState_cut5.1) := by
      apply PSigma.mk
      case snd =>
       intro hm_
       intro k a0_0 a0_1 A0_2 c0_2 l0_2 A0_3 c0_3 l0_3 a0_4 a0_5 a0_6 a0_7 a0_8 a0_9 a1_0 a1_1 A1_2 c1_2 l1_2 A1_3 c1_3 l1_3 a1_4 a1_5 a1_6 a1_7 a1_8 a1_9 w hu82 hu87 HR0_2 HC0_2 HR0_3 HC0_3 HR1_2 HC1_2 HR1_3 HC1_3 t179 A3 c4b0 t180 A10 c11b0 t181 t182 t183 t186 t189 t190 t191 t192 t193 t194 A19 t195 t196 t197 t200 t203 t204 t205 t206 t207 t208 A20 t209 A21 t210 t211 t212 t215 t218 t219 t220 t221 t222 t223 A22 t225 t226 t227 t230 t233 t234 t235 t236 t237 t238 A23 t240 A24 c25b0 c25b1 c25b2 t241 t242 t243 t246 t249 t250 t251 t252 t253 t254 A26 A27 t256 t257 t258 t261 t264 t265 t266 t267 t268 t269 A29 A30 zq5_1 gb177 w32 GW177 GE177 gb178 w33 GW178 GE178 NB177_178 NB178_177 hnb34 hnc34 hcz35_0 hcz35_1 hcz35_2 hcz35_3 hcz35_4 hcz35_5 hcz35_6 hcz35_7 hcz35_8 hcz35_9 hfz35_0 hfz35_1 hfz35_2 hfz35_3 hfz35_4 hfz35_5 hfz35_6 hfz35_7 hfz35_8 hfz35_9 w36 hcz37_0 hcz37_1 hcz37_2 hcz37_3 hcz37_4 hcz37_5 hcz37_6 hcz37_7 hcz37_8 hcz37_9 hfz37_0 hfz37_1 hfz37_2 hfz37_3 hfz37_4 hfz37_5 hfz37_6 hfz37_7 hfz37_8 hfz37_9 w38 H w39 zq5_2 w40 zq5_3 w41 Ao42 co42 Ao43 co43 Ao44 co44 Ao45 co45 zq5_4 w46 hHeld hcz47_0 hcz47_1 hcz47_2 hcz47_3 hcz47_4 hcz47_5 hcz47_6 hcz47_7 hcz47_8 hcz47_9 hfz47_0 hfz47_1 hfz47_2 hfz47_3 hfz47_4 hfz47_5 hfz47_6 hfz47_7 hfz47_8 hfz47_9 w48 gb224 w49 BK177 BK178 HB BK224 GW224 GE224 NB177_224 NB224_177 NB178_224 NB224_178 hnb50 hnc50 hnb51 hnc51 hcz52_0 hcz52_1 hcz52_2 hcz52_3 hcz52_4 hcz52_5 hcz52_6 hcz52_7 hcz52_8 hcz52_9 hfz52_0 hfz52_1 hfz52_2 hfz52_3 hfz52_4 hfz52_5 hfz52_6 hfz52_7 hfz52_8 hfz52_9 Ao53 co53 HO185 HO199 HO214 Ao54 co54 HO188 HO202 HO217 hcz55_0 hcz55_1 hcz55_2 hcz55_3 hcz55_4 hcz55_5 hcz55_6 hcz55_7 hcz55_8 hcz55_9 hfz55_0 hfz55_1 hfz55_2 hfz55_3 hfz55_4 hfz55_5 hfz55_6 hfz55_7 hfz55_8 hfz55_9 zq5_5 zq5_6
       go_upto_region 11 with (first | ((with_reducible refine gate_callee (f:=43) rfl ?_); refine goesL_ (some 28) rfl rfl Try.func43 (by kernel_rfl) rfl #[.agg #[.int .i64 a1_0,.int .i64 a1_1,.slice A1_2 l1_2.length c1_2,.slice A1_3 l1_3.length c1_3,.int .i64 a1_4,.int .i64 a1_5,.int .i64 a1_6,.int .i64 a1_7,.int .i64 a1_8,.int .i64 a1_9]] rfl mA ?_; (with_reducible refine (laws_toState.calls k a1_0 a1_1 _ _ l1_2 _ _ l1_3 a1_4 a1_5 a1_6 a1_7 a1_8 a1_9 t225 t226 t227 t230 t233 t234 t235 t236 t237 t238 _ ?side1 ?side2 ?side3 ?side4 A23.out).mono ?_); (case side1 => exact Kd.C_below HR1_2.out bA); (case side2 => exact HC1_2.out); (case side3 => exact Kd.C_below HR1_3.out bA); (case side4 => exact HC1_3.out); rintro e w56 ⟨v228,v231,rfl,ho0,ho1,hb⟩; refine ⟨_,rfl,?_⟩; have n0_ := Aside0.mk (Kd.R_elder' (by (with_reducible repeat (first | apply Kd.R_alloc | apply Kd.R_drewN | apply Kd.R_drew)); exact (Kd.R_mono (Kd.R_far (p:=⟨gb224,9,none⟩) (Kd.R_far (p:=⟨gb224,8,none⟩) (Kd.R_far (p:=⟨gb224,7,none⟩) (Kd.R_far (p:=⟨gb224,6,none⟩) (Kd.R_far (p:=⟨gb224,5,none⟩) (Kd.R_far (p:=⟨gb224,4,none⟩) (Kd.R_far (p:=⟨gb224,3,none⟩) (Kd.R_far (p:=⟨gb224,2,none⟩) (Kd.R_far (p:=⟨gb224,1,none⟩) (Kd.R_far (p:=⟨gb224,0,none⟩) (Kd.R_types HO185.out BK224.out (by decide)) (fun _ hk => hk.2) (.int .i64 t210)) (fun _ hk => hk.2) (.int .i64 t211)) (fun _ hk => hk.2) (.slice Ao53 t212.length co53)) (fun _ hk => hk.2) (.slice Ao54 t215.length co54)) (fun _ hk => hk.2) (.int .i64 t218)) (fun _ hk => hk.2) (.int .i64 t219)) (fun _ hk => hk.2) (.int .i64 t220)) (fun _ hk => hk.2) (.int .i64 t221)) (fun _ hk => hk.2) (.int .i64 t222)) (fun _ hk => hk.2) (.int .i64 t223)) (fun _ h_ => h_.1))) (Kd.R_base ho0) hb); have n1_ := Aside0.mk (Kd.R_elder' (by (with_reducible repeat (first | apply Kd.R_alloc | apply Kd.R_drewN | apply Kd.R_drew)); exact (Kd.R_mono (Kd.R_far (p:=⟨gb224,9,none⟩) (Kd.R_far (p:=⟨gb224,8,none⟩) (Kd.R_far (p:=⟨gb224,7,none⟩) (Kd.R_far (p:=⟨gb224,6,none⟩) (Kd.R_far (p:=⟨gb224,5,none⟩) (Kd.R_far (p:=⟨gb224,4,none⟩) (Kd.R_far (p:=⟨gb224,3,none⟩) (Kd.R_far (p:=⟨gb224,2,none⟩) (Kd.R_far (p:=⟨gb224,1,none⟩) (Kd.R_far (p:=⟨gb224,0,none⟩) (Kd.R_types HO188.out BK224.out (by decide)) (fun _ hk => hk.2) (.int .i64 t210)) (fun _ hk => hk.2) (.int .i64 t211)) (fun _ hk => hk.2) (.slice Ao53 t212.length co53)) (fun _ hk => hk.2) (.slice Ao54 t215.length co54)) (fun _ hk => hk.2) (.int .i64 t218)) (fun _ hk => hk.2) (.int .i64 t219)) (fun _ hk => hk.2) (.int .i64 t220)) (fun _ hk => hk.2) (.int .i64 t221)) (fun _ hk => hk.2) (.int .i64 t222)) (fun _ hk => hk.2) (.int .i64 t223)) (fun _ h_ => h_.1))) (Kd.R_base ho1) hb); have n2_ := Aside0.mk (Kd.R_elder' (by (with_reducible repeat (first | apply Kd.R_alloc | apply Kd.R_drewN | apply Kd.R_drew)); exact (Kd.R_mono (Kd.R_far (p:=⟨gb224,9,none⟩) (Kd.R_far (p:=⟨gb224,8,none⟩) (Kd.R_far (p:=⟨gb224,7,none⟩) (Kd.R_far (p:=⟨gb224,6,none⟩) (Kd.R_far (p:=⟨gb224,5,none⟩) (Kd.R_far (p:=⟨gb224,4,none⟩) (Kd.R_far (p:=⟨gb224,3,none⟩) (Kd.R_far (p:=⟨gb224,2,none⟩) (Kd.R_far (p:=⟨gb224,1,none⟩) (Kd.R_far (p:=⟨gb224,0,none⟩) (Kd.R_types HO199.out BK224.out (by decide)) (fun _ hk => hk.2) (.int .i64 t210)) (fun _ hk => hk.2) (.int .i64 t211)) (fun _ hk => hk.2) (.slice Ao53 t212.length co53)) (fun _ hk => hk.2) (.slice Ao54 t215.length co54)) (fun _ hk => hk.2) (.int .i64 t218)) (fun _ hk => hk.2) (.int .i64 t219)) (fun _ hk => hk.2) (.int .i64 t220)) (fun _ hk => hk.2) (.int .i64 t221)) (fun _ hk => hk.2) (.int .i64 t222)) (fun _ hk => hk.2) (.int .i64 t223)) (fun _ h_ => h_.1))) (Kd.R_base ho0) hb); have n3_ := Aside0.mk (Kd.R_elder' (by (with_reducible repeat (first | apply Kd.R_alloc | apply Kd.R_drewN | apply Kd.R_drew)); exact (Kd.R_mono (Kd.R_far (p:=⟨gb224,9,none⟩) (Kd.R_far (p:=⟨gb224,8,none⟩) (Kd.R_far (p:=⟨gb224,7,none⟩) (Kd.R_far (p:=⟨gb224,6,none⟩) (Kd.R_far (p:=⟨gb224,5,none⟩) (Kd.R_far (p:=⟨gb224,4,none⟩) (Kd.R_far (p:=⟨gb224,3,none⟩) (Kd.R_far (p:=⟨gb224,2,none⟩) (Kd.R_far (p:=⟨gb224,1,none⟩) (Kd.R_far (p:=⟨gb224,0,none⟩) (Kd.R_types HO202.out BK224.out (by decide)) (fun _ hk => hk.2) (.int .i64 t210)) (fun _ hk => hk.2) (.int .i64 t211)) (fun _ hk => hk.2) (.slice Ao53 t212.length co53)) (fun _ hk => hk.2) (.slice Ao54 t215.length co54)) (fun _ hk => hk.2) (.int .i64 t218)) (fun _ hk => hk.2) (.int .i64 t219)) (fun _ hk => hk.2) (.int .i64 t220)) (fun _ hk => hk.2) (.int .i64 t221)) (fun _ hk => hk.2) (.int .i64 t222)) (fun _ hk => hk.2) (.int .i64 t223)) (fun _ h_ => h_.1))) (Kd.R_base ho1) hb); have n4_ := Aside0.mk (Kd.R_elder' (by (with_reducible repeat (first | apply Kd.R_alloc | apply Kd.R_drewN | apply Kd.R_drew)); exact (Kd.R_mono (Kd.R_far (p:=⟨gb224,9,none⟩) (Kd.R_far (p:=⟨gb224,8,none⟩) (Kd.R_far (p:=⟨gb224,7,none⟩) (Kd.R_far (p:=⟨gb224,6,none⟩) (Kd.R_far (p:=⟨gb224,5,none⟩) (Kd.R_far (p:=⟨gb224,4,none⟩) (Kd.R_far (p:=⟨gb224,3,none⟩) (Kd.R_far (p:=⟨gb224,2,none⟩) (Kd.R_far (p:=⟨gb224,1,none⟩) (Kd.R_far (p:=⟨gb224,0,none⟩) (Kd.R_types HO214.out BK224.out (by decide)) (fun _ hk => hk.2) (.int .i64 t210)) (fun _ hk => hk.2) (.int .i64 t211)) (fun _ hk => hk.2) (.slice Ao53 t212.length co53)) (fun _ hk => hk.2) (.slice Ao54 t215.length co54)) (fun _ hk => hk.2) (.int .i64 t218)) (fun _ hk => hk.2) (.int .i64 t219)) (fun _ hk => hk.2) (.int .i64 t220)) (fun _ hk => hk.2) (.int .i64 t221)) (fun _ hk => hk.2) (.int .i64 t222)) (fun _ hk => hk.2) (.int .i64 t223)) (fun _ h_ => h_.1))) (Kd.R_base ho0) hb); have n5_ := Aside0.mk (Kd.R_elder' (by (with_reducible repeat (first | apply Kd.R_alloc | apply Kd.R_drewN | apply Kd.R_drew)); exact (Kd.R_mono (Kd.R_far (p:=⟨gb224,9,none⟩) (Kd.R_far (p:=⟨gb224,8,none⟩) (Kd.R_far (p:=⟨gb224,7,none⟩) (Kd.R_far (p:=⟨gb224,6,none⟩) (Kd.R_far (p:=⟨gb224,5,none⟩) (Kd.R_far (p:=⟨gb224,4,none⟩) (Kd.R_far (p:=⟨gb224,3,none⟩) (Kd.R_far (p:=⟨gb224,2,none⟩) (Kd.R_far (p:=⟨gb224,1,none⟩) (Kd.R_far (p:=⟨gb224,0,none⟩) (Kd.R_types HO217.out BK224.out (by decide)) (fun _ hk => hk.2) (.int .i64 t210)) (fun _ hk => hk.2) (.int .i64 t211)) (fun _ hk => hk.2) (.slice Ao53 t212.length co53)) (fun _ hk => hk.2) (.slice Ao54 t215.length co54)) (fun _ hk => hk.2) (.int .i64 t218)) (fun _ hk => hk.2) (.int .i64 t219)) (fun _ hk => hk.2) (.int .i64 t220)) (fun _ hk => hk.2) (.int .i64 t221)) (fun _ hk => hk.2) (.int .i64 t222)) (fun _ hk => hk.2) (.int .i64 t223)) (fun _ h_ => h_.1))) (Kd.R_base ho1) hb); have n6_ := Aside0.mk (Kd.R_lower (Kd.R_new' (Kd.R_new' (Kd.R_new' ho0 (Kd.R_lt (by (with_reducible repeat (first | apply Kd.R_alloc | apply Kd.R_drewN | apply Kd.R_drew)); exact (Kd.R_mono (Kd.R_far (p:=⟨gb224,9,none⟩) (Kd.R_far (p:=⟨gb224,8,none⟩) (Kd.R_far (p:=⟨gb224,7,none⟩) (Kd.R_far (p:=⟨gb224,6,none⟩) (Kd.R_far (p:=⟨gb224,5,none⟩) (Kd.R_far (p:=⟨gb224,4,none⟩) (Kd.R_far (p:=⟨gb224,3,none⟩) (Kd.R_far (p:=⟨gb224,2,none⟩) (Kd.R_far (p:=⟨gb224,1,none⟩) (Kd.R_far (p:=⟨gb224,0,none⟩) (Kd.R_types HO185.out BK224.out (by decide)) (fun _ hk => hk.2) (.int .i64 t210)) (fun _ hk => hk.2) (.int .i64 t211)) (fun _ hk => hk.2) (.slice Ao53 t212.length co53)) (fun _ hk => hk.2) (.slice Ao54 t215.length co54)) (fun _ hk => hk.2) (.int .i64 t218)) (fun _ hk => hk.2) (.int .i64 t219)) (fun _ hk => hk.2) (.int .i64 t220)) (fun _ hk => hk.2) (.int .i64 t221)) (fun _ hk => hk.2) (.int .i64 t222)) (fun _ hk => hk.2) (.int .i64 t223)) (fun _ h_ => h_.1))))) (Kd.R_lt (by (with_reducible repeat (first | apply Kd.R_alloc | apply Kd.R_drewN | apply Kd.R_drew)); exact (Kd.R_mono (Kd.R_far (p:=⟨gb224,9,none⟩) (Kd.R_far (p:=⟨gb224,8,none⟩) (Kd.R_far (p:=⟨gb224,7,none⟩) (Kd.R_far (p:=⟨gb224,6,none⟩) (Kd.R_far (p:=⟨gb224,5,none⟩) (Kd.R_far (p:=⟨gb224,4,none⟩) (Kd.R_far (p:=⟨gb224,3,none⟩) (Kd.R_far (p:=⟨gb224,2,none⟩) (Kd.R_far (p:=⟨gb224,1,none⟩) (Kd.R_far (p:=⟨gb224,0,none⟩) (Kd.R_types HO199.out BK224.out (by decide)) (fun _ hk => hk.2) (.int .i64 t210)) (fun _ hk => hk.2) (.int .i64 t211)) (fun _ hk => hk.2) (.slice Ao53 t212.length co53)) (fun _ hk => hk.2) (.slice Ao54 t215.length co54)) (fun _ hk => hk.2) (.int .i64 t218)) (fun _ hk => hk.2) (.int .i64 t219)) (fun _ hk => hk.2) (.int .i64 t220)) (fun _ hk => hk.2) (.int .i64 t221)) (fun _ hk => hk.2) (.int .i64 t222)) (fun _ hk => hk.2) (.int .i64 t223)) (fun _ h_ => h_.1))))) (Kd.R_lt (by (with_reducible repeat (first | apply Kd.R_alloc | apply Kd.R_drewN | apply Kd.R_drew)); exact (Kd.R_mono (Kd.R_far (p:=⟨gb224,9,none⟩) (Kd.R_far (p:=⟨gb224,8,none⟩) (Kd.R_far (p:=⟨gb224,7,none⟩) (Kd.R_far (p:=⟨gb224,6,none⟩) (Kd.R_far (p:=⟨gb224,5,none⟩) (Kd.R_far (p:=⟨gb224,4,none⟩) (Kd.R_far (p:=⟨gb224,3,none⟩) (Kd.R_far (p:=⟨gb224,2,none⟩) (Kd.R_far (p:=⟨gb224,1,none⟩) (Kd.R_far (p:=⟨gb224,0,none⟩) (Kd.R_types HO214.out BK224.out (by decide)) (fun _ hk => hk.2) (.int .i64 t210)) (fun _ hk => hk.2) (.int .i64 t211)) (fun _ hk => hk.2) (.slice Ao53 t212.length co53)) (fun _ hk => hk.2) (.slice Ao54 t215.length co54)) (fun _ hk => hk.2) (.int .i64 t218)) (fun _ hk => hk.2) (.int .i64 t219)) (fun _ hk => hk.2) (.int .i64 t220)) (fun _ hk => hk.2) (.int .i64 t221)) (fun _ hk => hk.2) (.int .i64 t222)) (fun _ hk => hk.2) (.int .i64 t223)) (fun _ h_ => h_.1))))) (below_size bA)); have n7_ := Aside0.mk (Kd.R_lower (Kd.R_new' (Kd.R_new' (Kd.R_new' ho1 (Kd.R_lt (by (with_reducible repeat (first | apply Kd.R_alloc | apply Kd.R_drewN | apply Kd.R_drew)); exact (Kd.R_mono (Kd.R_far (p:=⟨gb224,9,none⟩) (Kd.R_far (p:=⟨gb224,8,none⟩) (Kd.R_far (p:=⟨gb224,7,none⟩) (Kd.R_far (p:=⟨gb224,6,none⟩) (Kd.R_far (p:=⟨gb224,5,none⟩) (Kd.R_far (p:=⟨gb224,4,none⟩) (Kd.R_far (p:=⟨gb224,3,none⟩) (Kd.R_far (p:=⟨gb224,2,none⟩) (Kd.R_far (p:=⟨gb224,1,none⟩) (Kd.R_far (p:=⟨gb224,0,none⟩) (Kd.R_types HO188.out BK224.out (by decide)) (fun _ hk => hk.2) (.int .i64 t210)) (fun _ hk => hk.2) (.int .i64 t211)) (fun _ hk => hk.2) (.slice Ao53 t212.length co53)) (fun _ hk => hk.2) (.slice Ao54 t215.length co54)) (fun _ hk => hk.2) (.int .i64 t218)) (fun _ hk => hk.2) (.int .i64 t219)) (fun _ hk => hk.2) (.int .i64 t220)) (fun _ hk => hk.2) (.int .i64 t221)) (fun _ hk => hk.2) (.int .i64 t222)) (fun _ hk => hk.2) (.int .i64 t223)) (fun _ h_ => h_.1))))) (Kd.R_lt (by (with_reducible repeat (first | apply Kd.R_alloc | apply Kd.R_drewN | apply Kd.R_drew)); exact (Kd.R_mono (Kd.R_far (p:=⟨gb224,9,none⟩) (Kd.R_far (p:=⟨gb224,8,none⟩) (Kd.R_far (p:=⟨gb224,7,none⟩) (Kd.R_far (p:=⟨gb224,6,none⟩) (Kd.R_far (p:=⟨gb224,5,none⟩) (Kd.R_far (p:=⟨gb224,4,none⟩) (Kd.R_far (p:=⟨gb224,3,none⟩) (Kd.R_far (p:=⟨gb224,2,none⟩) (Kd.R_far (p:=⟨gb224,1,none⟩) (Kd.R_far (p:=⟨gb224,0,none⟩) (Kd.R_types HO202.out BK224.out (by decide)) (fun _ hk => hk.2) (.int .i64 t210)) (fun _ hk => hk.2) (.int .i64 t211)) (fun _ hk => hk.2) (.slice Ao53 t212.length co53)) (fun _ hk => hk.2) (.slice Ao54 t215.length co54)) (fun _ hk => hk.2) (.int .i64 t218)) (fun _ hk => hk.2) (.int .i64 t219)) (fun _ hk => hk.2) (.int .i64 t220)) (fun _ hk => hk.2) (.int .i64 t221)) (fun _ hk => hk.2) (.int .i64 t222)) (fun _ hk => hk.2) (.int .i64 t223)) (fun _ h_ => h_.1))))) (Kd.R_lt (by (with_reducible repeat (first | apply Kd.R_alloc | apply Kd.R_drewN | apply Kd.R_drew)); exact (Kd.R_mono (Kd.R_far (p:=⟨gb224,9,none⟩) (Kd.R_far (p:=⟨gb224,8,none⟩) (Kd.R_far (p:=⟨gb224,7,none⟩) (Kd.R_far (p:=⟨gb224,6,none⟩) (Kd.R_far (p:=⟨gb224,5,none⟩) (Kd.R_far (p:=⟨gb224,4,none⟩) (Kd.R_far (p:=⟨gb224,3,none⟩) (Kd.R_far (p:=⟨gb224,2,none⟩) (Kd.R_far (p:=⟨gb224,1,none⟩) (Kd.R_far (p:=⟨gb224,0,none⟩) (Kd.R_types HO217.out BK224.out (by decide)) (fun _ hk => hk.2) (.int .i64 t210)) (fun _ hk => hk.2) (.int .i64 t211)) (fun _ hk => hk.2) (.slice Ao53 t212.length co53)) (fun _ hk => hk.2) (.slice Ao54 t215.length co54)) (fun _ hk => hk.2) (.int .i64 t218)) (fun _ hk => hk.2) (.int .i64 t219)) (fun _ hk => hk.2) (.int .i64 t220)) (fun _ hk => hk.2) (.int .i64 t221)) (fun _ hk => hk.2) (.int .i64 t222)) (fun _ hk => hk.2) (.int .i64 t223)) (fun _ h_ => h_.1))))) (below_size bA)); have n8_ := Aside0.mk (blk_below (g:=gb177) (o:=.cells #[.int .i64 a0_0,.int .i64 a0_1,.slice A0_2 l0_2.length c0_2,.slice A0_3 l0_3.length c0_3,.int .i64 a0_4,.int .i64 a0_5,.int .i64 a0_6,.int .i64 a0_7,.int .i64 a0_8,.int .i64 a0_9] 82 (0,0)) (kF BK177.out) hb); have n9_ := Aside0.mk (blk_below (g:=gb178) (o:=.cells #[.int .i64 a1_0,.int .i64 a1_1,.slice A1_2 l1_2.length c1_2,.slice A1_3 l1_3.length c1_3,.int .i64 a1_4,.int .i64 a1_5,.int .i64 a1_6,.int .i64 a1_7,.int .i64 a1_8,.int .i64 a1_9] 82 (0,0)) (kF BK178.out) hb); have n10_ := Aside0.mk (blk_below (g:=gb224) (o:=.cells #[.int .i64 t210,.int .i64 t211,.slice Ao53 t212.length co53,.slice Ao54 t215.length co54,.int .i64 t218,.int .i64 t219,.int .i64 t220,.int .i64 t221,.int .i64 t222,.int .i64 t223] 87 (0,0)) (by (with_reducible repeat (first | refine blk_drewN ?_ _ | refine blk_drew ?_ | refine blk_alloc ?_ _)); refine blk_put (cs := #[.int .i64 t210,.int .i64 t211,.slice Ao53 t212.length co53,.slice Ao54 t215.length co54,.int .i64 t218,.int .i64 t219,.int .i64 t220,.int .i64 t221,.int .i64 t222,.int .i64 0]) ?_ 9 _ rfl; (with_reducible repeat (first | refine blk_drewN ?_ _ | refine blk_drew ?_ | refine blk_alloc ?_ _)); refine blk_put (cs := #[.int .i64 t210,.int .i64 t211,.slice Ao53 t212.length co53,.slice Ao54 t215.length co54,.int .i64 t218,.int .i64 t219,.int .i64 t220,.int .i64 t221,.int .i64 0,.int .i64 0]) ?_ 8 _ rfl; (with_reducible repeat (first | refine blk_drewN ?_ _ | refine blk_drew ?_ | refine blk_alloc ?_ _)); refine blk_put (cs := #[.int .i64 t210,.int .i64 t211,.slice Ao53 t212.length co53,.slice Ao54 t215.length co54,.int .i64 t218,.int .i64 t219,.int .i64 t220,.int .i64 0,.int .i64 0,.int .i64 0]) ?_ 7 _ rfl; (with_reducible repeat (first | refine blk_drewN ?_ _ | refine blk_drew ?_ | refine blk_alloc ?_ _)); refine blk_put (cs := #[.int .i64 t210,.int .i64 t211,.slice Ao53 t212.length co53,.slice Ao54 t215.length co54,.int .i64 t218,.int .i64 t219,.int .i64 0,.int .i64 0,.int .i64 0,.int .i64 0]) ?_ 6 _ rfl; (with_reducible repeat (first | refine blk_drewN ?_ _ | refine blk_drew ?_ | refine blk_alloc ?_ _)); refine blk_put (cs := #[.int .i64 t210,.int .i64 t211,.slice Ao53 t212.length co53,.slice Ao54 t215.length co54,.int .i64 t218,.int .i64 0,.int .i64 0,.int .i64 0,.int .i64 0,.int .i64 0]) ?_ 5 _ rfl; (with_reducible repeat (first | refine blk_drewN ?_ _ | refine blk_drew ?_ | refine blk_alloc ?_ _)); refine blk_put (cs := #[.int .i64 t210,.int .i64 t211,.slice Ao53 t212.length co53,.slice Ao54 t215.length co54,.int .i64 0,.int .i64 0,.int .i64 0,.int .i64 0,.int .i64 0,.int .i64 0]) ?_ 4 _ rfl; (with_reducible repeat (first | refine blk_drewN ?_ _ | refine blk_drew ?_ | refine blk_alloc ?_ _)); refine blk_put (cs := #[.int .i64 t210,.int .i64 t211,.slice Ao53 t212.length co53,.slice none 0 0,.int .i64 0,.int .i64 0,.int .i64 0,.int .i64 0,.int .i64 0,.int .i64 0]) ?_ 3 _ rfl; (with_reducible repeat (first | refine blk_drewN ?_ _ | refine blk_drew ?_ | refine blk_alloc ?_ _)); refine blk_put (cs := #[.int .i64 t210,.int .i64 t211,.slice none 0 0,.slice none 0 0,.int .i64 0,.int .i64 0,.int .i64 0,.int .i64 0,.int .i64 0,.int .i64 0]) ?_ 2 _ rfl; (with_reducible repeat (first | refine blk_drewN ?_ _ | refine blk_drew ?_ | refine blk_alloc ?_ _)); refine blk_put (cs := #[.int .i64 t210,.int .i64 0,.slice none 0 0,.slice none 0 0,.int .i64 0,.int .i64 0,.int .i64 0,.int .i64 0,.int .i64 0,.int .i64 0]) ?_ 1 _ rfl; (with_reducible repeat (first | refine blk_drewN ?_ _ | refine blk_drew ?_ | refine blk_alloc ?_ _)); refine blk_put (cs := #[.int .i64 0,.int .i64 0,.slice none 0 0,.slice none 0 0,.int .i64 0,.int .i64 0,.int .i64 0,.int .i64 0,.int .i64 0,.int .i64 0]) ?_ 0 _ rfl; (with_reducible repeat (first | refine blk_drewN ?_ _ | refine blk_drew ?_ | refine blk_alloc ?_ _)); exact BK224.out) hb); have n11_ := Aside0.mk (below_step bA hb); clear HO185; clear HO188; clear HO199; clear HO202; clear HO214; clear HO217; clear BK177; clear BK178; clear BK224; clear HB; have HO185 := n0_; have HO188 := n1_; have HO199 := n2_; have HO202 := n3_; have HO214 := n4_; have HO217 := n5_; have HO229 := n6_; have HO232 := n7_; have BK177 := n8_; have BK178 := n9_; have BK224 := n10_; have HB := n11_; clear n0_ n1_ n2_ n3_ n4_ n5_ n6_ n7_ n8_ n9_ n10_ n11_; (try clear hb); (try clear hb2); (try clear hk); (try clear hi); (try clear ho0); (try clear ho1)) | ((with_reducible refine gate_dst (N:=8) rfl ?_); refine box_event ?hg (N:=8) ?hd (cs := #[.int .i64 0,.int .i64 0,.slice none 0 0,.slice none 0 0,.int .i64 0,.int .i64 0,.int .i64 0,.int .i64 0,.int .i64 0,.int .i64 0]) (t:=87) ?hr ?_; (case hd => rfl); (case hg => rfl); (case hr => first | (go_simp; done) | (go_simp; rfl)); intro gb239 hg w57 hbox hb; have n0_ := Aside0.mk (Kd.R_below (rA HO185.out) hb); have n1_ := Aside0.mk (Kd.R_below (rA HO188.out) hb); have n2_ := Aside0.mk (Kd.R_below (rA HO199.out) hb); have n3_ := Aside0.mk (Kd.R_below (rA HO202.out) hb); have n4_ := Aside0.mk (Kd.R_below (rA HO214.out) hb); have n5_ := Aside0.mk (Kd.R_below (rA HO217.out) hb); have n6_ := Aside0.mk (Kd.R_below (rA HO229.out) hb); have n7_ := Aside0.mk (Kd.R_below (rA HO232.out) hb); have n8_ := Aside0.mk (blk_below (g:=gb177) (o:=.cells #[.int .i64 a0_0,.int .i64 a0_1,.slice A0_2 l0_2.length c0_2,.slice A0_3 l0_3.length c0_3,.int .i64 a0_4,.int .i64 a0_5,.int .i64 a0_6,.int .i64 a0_7,.int .i64 a0_8,.int .i64 a0_9] 82 (0,0)) (kA BK177.out) hb); have n9_ := Aside0.mk (blk_below (g:=gb178) (o:=.cells #[.int .i64 a1_0,.int .i64 a1_1,.slice A1_2 l1_2.length c1_2,.slice A1_3 l1_3.length c1_3,.int .i64 a1_4,.int .i64 a1_5,.int .i64 a1_6,.int .i64 a1_7,.int .i64 a1_8,.int .i64 a1_9] 82 (0,0)) (kA BK178.out) hb); have n10_ := Aside0.mk (blk_below (g:=gb224) (o:=.cells #[.int .i64 t210,.int .i64 t211,.slice Ao53 t212.length co53,.slice Ao54 t215.length co54,.int .i64 t218,.int .i64 t219,.int .i64 t220,.int .i64 t221,.int .i64 t222,.int .i64 t223] 87 (0,0)) (kA BK224.out) hb); have n11_ := Aside0.mk (below_step bA hb); have n12_ := Aside0.mk (hbox); have n13_ := Aside0.mk ((by rw [hg]; exact (below_size bA) : w.heap.size ≤ gb239)); have n14_ := Aside0.mk ((by rw [hg]; exact (below_size bA) : w.heap.size ≤ gb239)); have n15_ := Aside0.mk ((by rw [hg]; exact Nat.ne_of_lt (blk_lt (g:=gb177) (o:=.cells #[.int .i64 a0_0,.int .i64 a0_1,.slice A0_2 l0_2.length c0_2,.slice A0_3 l0_3.length c0_3,.int .i64 a0_4,.int .i64 a0_5,.int .i64 a0_6,.int .i64 a0_7,.int .i64 a0_8,.int .i64 a0_9] 82 (0,0)) (kA BK177.out)) : gb177 ≠ gb239)); have n16_ := Aside0.mk ((by rw [hg]; exact Nat.ne_of_gt (blk_lt (g:=gb177) (o:=.cells #[.int .i64 a0_0,.int .i64 a0_1,.slice A0_2 l0_2.length c0_2,.slice A0_3 l0_3.length c0_3,.int .i64 a0_4,.int .i64 a0_5,.int .i64 a0_6,.int .i64 a0_7,.int .i64 a0_8,.int .i64 a0_9] 82 (0,0)) (kA BK177.out)) : gb239 ≠ gb177)); have n17_ := Aside0.mk ((by rw [hg]; exact Nat.ne_of_lt (blk_lt (g:=gb178) (o:=.cells #[.int .i64 a1_0,.int .i64 a1_1,.slice A1_2 l1_2.length c1_2,.slice A1_3 l1_3.length c1_3,.int .i64 a1_4,.int .i64 a1_5,.int .i64 a1_6,.int .i64 a1_7,.int .i64 a1_8,.int .i64 a1_9] 82 (0,0)) (kA BK178.out)) : gb178 ≠ gb239)); have n18_ := Aside0.mk ((by rw [hg]; exact Nat.ne_of_gt (blk_lt (g:=gb178) (o:=.cells #[.int .i64 a1_0,.int .i64 a1_1,.slice A1_2 l1_2.length c1_2,.slice A1_3 l1_3.length c1_3,.int .i64 a1_4,.int .i64 a1_5,.int .i64 a1_6,.int .i64 a1_7,.int .i64 a1_8,.int .i64 a1_9] 82 (0,0)) (kA BK178.out)) : gb239 ≠ gb178)); have n19_ := Aside0.mk ((by rw [hg]; exact Nat.ne_of_lt (blk_lt (g:=gb224) (o:=.cells #[.int .i64 t210,.int .i64 t211,.slice Ao53 t212.length co53,.slice Ao54 t215.length co54,.int .i64 t218,.int .i64 t219,.int .i64 t220,.int .i64 t221,.int .i64 t222,.int .i64 t223] 87 (0,0)) (kA BK224.out)) : gb224 ≠ gb239)); have n20_ := Aside0.mk ((by rw [hg]; exact Nat.ne_of_gt (blk_lt (g:=gb224) (o:=.cells #[.int .i64 t210,.int .i64 t211,.slice Ao53 t212.length co53,.slice Ao54 t215.length co54,.int .i64 t218,.int .i64 t219,.int .i64 t220,.int .i64 t221,.int .i64 t222,.int .i64 t223] 87 (0,0)) (kA BK224.out)) : gb239 ≠ gb224)); clear HO185; clear HO188; clear HO199; clear HO202; clear HO214; clear HO217; clear HO229; clear HO232; clear BK177; clear BK178; clear BK224; clear HB; have HO185 := n0_; have HO188 := n1_; have HO199 := n2_; have HO202 := n3_; have HO214 := n4_; have HO217 := n5_; have HO229 := n6_; have HO232 := n7_; have BK177 := n8_; have BK178 := n9_; have BK224 := n10_; have HB := n11_; have BK239 := n12_; have GW239 := n13_; have GE239 := n14_; have NB177_239 := n15_; have NB239_177 := n16_; have NB178_239 := n17_; have NB239_178 := n18_; have NB224_239 := n19_; have NB239_224 := n20_; clear n0_ n1_ n2_ n3_ n4_ n5_ n6_ n7_ n8_ n9_ n10_ n11_ n12_ n13_ n14_ n15_ n16_ n17_ n18_ n19_ n20_; clear hb hbox hg; have hnb58 := NB239_177.out; have hnc58 := NB177_239.out; have hnb59 := NB239_178.out; have hnc59 := NB178_239.out; have hnb60 := NB239_224.out; have hnc60 := NB224_239.out; have hcz61_0 : w57.cell? ⟨gb239,0,none⟩ = some (.int .i64 0) := (blk_cell BK239.out 0).trans rfl; have hcz61_1 : w57.cell? ⟨gb239,1,none⟩ = some (.int .i64 0) := (blk_cell BK239.out 1).trans rfl; have hcz61_2 : w57.cell? ⟨gb239,2,none⟩ = some (.slice none 0 0) := (blk_cell BK239.out 2).trans rfl; have hcz61_3 : w57.cell? ⟨gb239,3,none⟩ = some (.slice none 0 0) := (blk_cell BK239.out 3).trans rfl; have hcz61_4 : w57.cell? ⟨gb239,4,none⟩ = some (.int .i64 0) := (blk_cell BK239.out 4).trans rfl; have hcz61_5 : w57.cell? ⟨gb239,5,none⟩ = some (.int .i64 0) := (blk_cell BK239.out 5).trans rfl; have hcz61_6 : w57.cell? ⟨gb239,6,none⟩ = some (.int .i64 0) := (blk_cell BK239.out 6).trans rfl; have hcz61_7 : w57.cell? ⟨gb239,7,none⟩ = some (.int .i64 0) := (blk_cell BK239.out 7).trans rfl; have hcz61_8 : w57.cell? ⟨gb239,8,none⟩ = some (.int .i64 0) := (blk_cell BK239.out 8).trans rfl; have hcz61_9 : w57.cell? ⟨gb239,9,none⟩ = some (.int .i64 0) := (blk_cell BK239.out 9).trans rfl; have hfz61_0 := blk_frozen BK239.out 0; have hfz61_1 := blk_frozen BK239.out 1; have hfz61_2 := blk_frozen BK239.out 2; have hfz61_3 := blk_frozen BK239.out 3; have hfz61_4 := blk_frozen BK239.out 4; have hfz61_5 := blk_frozen BK239.out 5; have hfz61_6 := blk_frozen BK239.out 6; have hfz61_7 := blk_frozen BK239.out 7; have hfz61_8 := blk_frozen BK239.out 8; have hfz61_9 := blk_frozen BK239.out 9; obtain ⟨Ao62,co62,eo62⟩ := Kd.R_slice HO229.out; subst eo62; obtain ⟨Ao63,co63,eo63⟩ := Kd.R_slice HO232.out; subst eo63; have hcz64_0 : w57.cell? ⟨gb224,0,none⟩ = some (.int .i64 t210) := (blk_cell BK224.out 0).trans rfl; have hcz64_1 : w57.cell? ⟨gb224,1,none⟩ = some (.int .i64 t211) := (blk_cell BK224.out 1).trans rfl; have hcz64_2 : w57.cell? ⟨gb224,2,none⟩ = some (.slice Ao53 t212.length co53) := (blk_cell BK224.out 2).trans rfl; have hcz64_3 : w57.cell? ⟨gb224,3,none⟩ = some (.slice Ao54 t215.length co54) := (blk_cell BK224.out 3).trans rfl; have hcz64_4 : w57.cell? ⟨gb224,4,none⟩ = some (.int .i64 t218) := (blk_cell BK224.out 4).trans rfl; have hcz64_5 : w57.cell? ⟨gb224,5,none⟩ = some (.int .i64 t219) := (blk_cell BK224.out 5).trans rfl; have hcz64_6 : w57.cell? ⟨gb224,6,none⟩ = some (.int .i64 t220) := (blk_cell BK224.out 6).trans rfl; have hcz64_7 : w57.cell? ⟨gb224,7,none⟩ = some (.int .i64 t221) := (blk_cell BK224.out 7).trans rfl; have hcz64_8 : w57.cell? ⟨gb224,8,none⟩ = some (.int .i64 t222) := (blk_cell BK224.out 8).trans rfl; have hcz64_9 : w57.cell? ⟨gb224,9,none⟩ = some (.int .i64 t223) := (blk_cell BK224.out 9).trans rfl; have hfz64_0 := blk_frozen BK224.out 0; have hfz64_1 := blk_frozen BK224.out 1; have hfz64_2 := blk_frozen BK224.out 2; have hfz64_3 := blk_frozen BK224.out 3; have hfz64_4 := blk_frozen BK224.out 4; have hfz64_5 := blk_frozen BK224.out 5; have hfz64_6 := blk_frozen BK224.out 6; have hfz64_7 := blk_frozen BK224.out 7; have hfz64_8 := blk_frozen BK224.out 8; have hfz64_9 := blk_frozen BK224.out 9))
       rename_i zp6_1 zp6_2; revert k a0_0 a0_1 A0_2 c0_2 l0_2 A0_3 c0_3 l0_3 a0_4 a0_5 a0_6 a0_7 a0_8 a0_9 a1_0 a1_1 A1_2 c1_2 l1_2 A1_3 c1_3 l1_3 a1_4 a1_5 a1_6 a1_7 a1_8 a1_9 w hu82 hu87 HR0_2 HC0_2 HR0_3 HC0_3 HR1_2 HC1_2 HR1_3 HC1_3 t179 A3 c4b0 t180 A10 c11b0 t181 t182 t183 t186 t189 t190 t191 t192 t193 t194 A19 t195 t196 t197 t200 t203 t204 t205 t206 t207 t208 A20 t209 A21 t210 t211 t212 t215 t218 t219 t220 t221 t222 t223 A22 t225 t226 t227 t230 t233 t234 t235 t236 t237 t238 A23 t240 A24 c25b0 c25b1 c25b2 t241 t242 t243 t246 t249 t250 t251 t252 t253 t254 A26 A27 t256 t257 t258 t261 t264 t265 t266 t267 t268 t269 A29 A30 zq5_1 gb177 w32 GW177 GE177 gb178 w33 GW178 GE178 NB177_178 NB178_177 hnb34 hnc34 hcz35_0 hcz35_1 hcz35_2 hcz35_3 hcz35_4 hcz35_5 hcz35_6 hcz35_7 hcz35_8 hcz35_9 hfz35_0 hfz35_1 hfz35_2 hfz35_3 hfz35_4 hfz35_5 hfz35_6 hfz35_7 hfz35_8 hfz35_9 w36 hcz37_0 hcz37_1 hcz37_2 hcz37_3 hcz37_4 hcz37_5 hcz37_6 hcz37_7 hcz37_8 hcz37_9 hfz37_0 hfz37_1 hfz37_2 hfz37_3 hfz37_4 hfz37_5 hfz37_6 hfz37_7 hfz37_8 hfz37_9 w38 H w39 zq5_2 w40 zq5_3 w41 Ao42 co42 Ao43 co43 Ao44 co44 Ao45 co45 zq5_4 w46 hHeld hcz47_0 hcz47_1 hcz47_2 hcz47_3 hcz47_4 hcz47_5 hcz47_6 hcz47_7 hcz47_8 hcz47_9 hfz47_0 hfz47_1 hfz47_2 hfz47_3 hfz47_4 hfz47_5 hfz47_6 hfz47_7 hfz47_8 hfz47_9 w48 gb224 w49 GW224 GE224 NB177_224 NB224_177 NB178_224 NB224_178 hnb50 hnc50 hnb51 hnc51 hcz52_0 hcz52_1 hcz52_2 hcz52_3 hcz52_4 hcz52_5 hcz52_6 hcz52_7 hcz52_8 hcz52_9 hfz52_0 hfz52_1 hfz52_2 hfz52_3 hfz52_4 hfz52_5 hfz52_6 hfz52_7 hfz52_8 hfz52_9 Ao53 co53 Ao54 co54 hcz55_0 hcz55_1 hcz55_2 hcz55_3 hcz55_4 hcz55_5 hcz55_6 hcz55_7 hcz55_8 hcz55_9 hfz55_0 hfz55_1 hfz55_2 hfz55_3 hfz55_4 hfz55_5 hfz55_6 hfz55_7 hfz55_8 hfz55_9 w56 gb239 w57 BK177 BK178 BK224 HB BK239 GW239 GE239 NB177_239 NB239_177 NB178_239 NB239_178 NB224_239 NB239_224 hnb58 hnc58 hnb59 hnc59 hnb60 hnc60 hcz61_0 hcz61_1 hcz61_2 hcz61_3 hcz61_4 hcz61_5 hcz61_6 hcz61_7 hcz61_8 hcz61_9 hfz61_0 hfz61_1 hfz61_2 hfz61_3 hfz61_4 hfz61_5 hfz61_6 hfz61_7 hfz61_8 hfz61_9 Ao62 co62 HO185 HO199 HO214 HO229 Ao63 co63 HO188 HO202 HO217 HO232 hcz64_0 hcz64_1 hcz64_2 hcz64_3 hcz64_4 hcz64_5 hcz64_6 hcz64_7 hcz64_8 hcz64_9 hfz64_0 hfz64_1 hfz64_2 hfz64_3 hfz64_4 hfz64_5 hfz64_6 hfz64_7 hfz64_8 hfz64_9 zp6_1 zp6_2; exact hm_.out
set_option maxHeartbeats 8000000 in
set_option maxRecDepth 100000 in
noncomputable def FnExactSameState_cut7 : PSigma (fun M_ : Prop => CutW M_ → FnExactSameState_cut6.1) := by
      apply PSigma.mk
      case snd =>
       intro hm_
       intro k a0_0 a0_1 A0_2 c0_2 l0_2 A0_3 c0_3 l0_3 a0_4 a0_5 a0_6 a0_7 a0_8 a0_9 a1_0 a1_1 A1_2 c1_2 l1_2 A1_3 c1_3 l1_3 a1_4 a1_5 a1_6 a1_7 a1_8 a1_9 w hu82 hu87 HR0_2 HC0_2 HR0_3 HC0_3 HR1_2 HC1_2 HR1_3 HC1_3 t179 A3 c4b0 t180 A10 c11b0 t181 t182 t183 t186 t189 t190 t191 t192 t193 t194 A19 t195 t196 t197 t200 t203 t204 t205 t206 t207 t208 A20 t209 A21 t210 t211 t212 t215 t218 t219 t220 t221 t222 t223 A22 t225 t226 t227 t230 t233 t234 t235 t236 t237 t238 A23 t240 A24 c25b0 c25b1 c25b2 t241 t242 t243 t246 t249 t250 t251 t252 t253 t254 A26 A27 t256 t257 t258 t261 t264 t265 t266 t267 t268 t269 A29 A30 zq6_1 gb177 w32 GW177 GE177 gb178 w33 GW178 GE178 NB177_178 NB178_177 hnb34 hnc34 hcz35_0 hcz35_1 hcz35_2 hcz35_3 hcz35_4 hcz35_5 hcz35_6 hcz35_7 hcz35_8 hcz35_9 hfz35_0 hfz35_1 hfz35_2 hfz35_3 hfz35_4 hfz35_5 hfz35_6 hfz35_7 hfz35_8 hfz35_9 w36 hcz37_0 hcz37_1 hcz37_2 hcz37_3 hcz37_4 hcz37_5 hcz37_6 hcz37_7 hcz37_8 hcz37_9 hfz37_0 hfz37_1 hfz37_2 hfz37_3 hfz37_4 hfz37_5 hfz37_6 hfz37_7 hfz37_8 hfz37_9 w38 H w39 zq6_2 w40 zq6_3 w41 Ao42 co42 Ao43 co43 Ao44 co44 Ao45 co45 zq6_4 w46 hHeld hcz47_0 hcz47_1 hcz47_2 hcz47_3 hcz47_4 hcz47_5 hcz47_6 hcz47_7 hcz47_8 hcz47_9 hfz47_0 hfz47_1 hfz47_2 hfz47_3 hfz47_4 hfz47_5 hfz47_6 hfz47_7 hfz47_8 hfz47_9 w48 gb224 w49 GW224 GE224 NB177_224 NB224_177 NB178_224 NB224_178 hnb50 hnc50 hnb51 hnc51 hcz52_0 hcz52_1 hcz52_2 hcz52_3 hcz52_4 hcz52_5 hcz52_6 hcz52_7 hcz52_8 hcz52_9 hfz52_0 hfz52_1 hfz52_2 hfz52_3 hfz52_4 hfz52_5 hfz52_6 hfz52_7 hfz52_8 hfz52_9 Ao53 co53 Ao54 co54 hcz55_0 hcz55_1 hcz55_2 hcz55_3 hcz55_4 hcz55_5 hcz55_6 hcz55_7 hcz55_8 hcz55_9 hfz55_0 hfz55_1 hfz55_2 hfz55_3 hfz55_4 hfz55_5 hfz55_6 hfz55_7 hfz55_8 hfz55_9 w56 gb239 w57 BK177 BK178 BK224 HB BK239 GW239 GE239 NB177_239 NB239_177 NB178_239 NB239_178 NB224_239 NB239_224 hnb58 hnc58 hnb59 hnc59 hnb60 hnc60 hcz61_0 hcz61_1 hcz61_2 hcz61_3 hcz61_4 hcz61_5 hcz61_6 hcz61_7 hcz61_8 hcz61_9 hfz61_0 hfz61_1 hfz61_2 hfz61_3 hfz61_4 hfz61_5 hfz61_6 hfz61_7 hfz61_8 hfz61_9 Ao62 co62 HO185 HO199 HO214 HO229 Ao63 co63 HO188 HO202 HO217 HO232 hcz64_0 hcz64_1 hcz64_2 hcz64_3 hcz64_4 hcz64_5 hcz64_6 hcz64_7 hcz64_8 hcz64_9 hfz64_0 hfz64_1 hfz64_2 hfz64_3 hfz64_4 hfz64_5 hfz64_6 hfz64_7 hfz64_8 hfz64_9 zq6_5 zq6_6
       try go_wp2_with (first | ((with_reducible refine gate_callee (f:=44) rfl ?_); refine goesL_ (some 31) rfl rfl Try.func44 (by kernel_rfl) rfl #[.agg #[.int .i64 t210,.int .i64 t211,.slice Ao53 t212.length co53,.slice Ao54 t215.length co54,.int .i64 t218,.int .i64 t219,.int .i64 t220,.int .i64 t221,.int .i64 t222,.int .i64 t223],.agg #[.int .i64 t225,.int .i64 t226,.slice Ao62 t227.length co62,.slice Ao63 t230.length co63,.int .i64 t233,.int .i64 t234,.int .i64 t235,.int .i64 t236,.int .i64 t237,.int .i64 t238]] rfl mA ?_; (with_reducible refine (impl_SameState.calls k t210 t211 _ _ t212 _ _ t215 t218 t219 t220 t221 t222 t223 t225 t226 _ _ t227 _ _ t230 t233 t234 t235 t236 t237 t238 t240 _ ?side1 ?side2 ?side3 ?side4 ?side5 ?side6 ?side7 ?side8 A24.out).mono ?_); (case side1 => refine (Kd.R_reads' (e:=120) (base := w.heap.size) (ok := fun k_ => (((True ∧ some k_ ≠ (.slice Ao42 t183.length co42 : Value).ownBlock) ∧ some k_ ≠ (.slice Ao44 t197.length co44 : Value).ownBlock) ∧ some k_ ≠ (.slice Ao62 t227.length co62 : Value).ownBlock)) (n:=t212.length) (c:=co53) ?_).2.2; exact (by (with_reducible repeat (first | apply Kd.R_alloc | apply Kd.R_drewN | apply Kd.R_drew)); exact (Kd.R_mono (Kd.R_far (p:=⟨gb239,9,none⟩) (Kd.R_far (p:=⟨gb239,8,none⟩) (Kd.R_far (p:=⟨gb239,7,none⟩) (Kd.R_far (p:=⟨gb239,6,none⟩) (Kd.R_far (p:=⟨gb239,5,none⟩) (Kd.R_far (p:=⟨gb239,4,none⟩) (Kd.R_far (p:=⟨gb239,3,none⟩) (Kd.R_far (p:=⟨gb239,2,none⟩) (Kd.R_far (p:=⟨gb239,1,none⟩) (Kd.R_far (p:=⟨gb239,0,none⟩) (Kd.R_types HO214.out BK239.out (by decide)) (fun _ hk => hk.2) (.int .i64 t225)) (fun _ hk => hk.2) (.int .i64 t226)) (fun _ hk => hk.2) (.slice Ao62 t227.length co62)) (fun _ hk => hk.2) (.slice Ao63 t230.length co63)) (fun _ hk => hk.2) (.int .i64 t233)) (fun _ hk => hk.2) (.int .i64 t234)) (fun _ hk => hk.2) (.int .i64 t235)) (fun _ hk => hk.2) (.int .i64 t236)) (fun _ hk => hk.2) (.int .i64 t237)) (fun _ hk => hk.2) (.int .i64 t238)) (fun _ h_ => h_.1)))); (case side2 => exact (Kd.R_reads' HO214.out).2.1); (case side3 => refine (Kd.R_reads' (e:=126) (base := w.heap.size) (ok := fun k_ => (((True ∧ some k_ ≠ (.slice Ao43 t186.length co43 : Value).ownBlock) ∧ some k_ ≠ (.slice Ao45 t200.length co45 : Value).ownBlock) ∧ some k_ ≠ (.slice Ao63 t230.length co63 : Value).ownBlock)) (n:=t215.length) (c:=co54) ?_).2.2; exact (by (with_reducible repeat (first | apply Kd.R_alloc | apply Kd.R_drewN | apply Kd.R_drew)); exact (Kd.R_mono (Kd.R_far (p:=⟨gb239,9,none⟩) (Kd.R_far (p:=⟨gb239,8,none⟩) (Kd.R_far (p:=⟨gb239,7,none⟩) (Kd.R_far (p:=⟨gb239,6,none⟩) (Kd.R_far (p:=⟨gb239,5,none⟩) (Kd.R_far (p:=⟨gb239,4,none⟩) (Kd.R_far (p:=⟨gb239,3,none⟩) (Kd.R_far (p:=⟨gb239,2,none⟩) (Kd.R_far (p:=⟨gb239,1,none⟩) (Kd.R_far (p:=⟨gb239,0,none⟩) (Kd.R_types HO217.out BK239.out (by decide)) (fun _ hk => hk.2) (.int .i64 t225)) (fun _ hk => hk.2) (.int .i64 t226)) (fun _ hk => hk.2) (.slice Ao62 t227.length co62)) (fun _ hk => hk.2) (.slice Ao63 t230.length co63)) (fun _ hk => hk.2) (.int .i64 t233)) (fun _ hk => hk.2) (.int .i64 t234)) (fun _ hk => hk.2) (.int .i64 t235)) (fun _ hk => hk.2) (.int .i64 t236)) (fun _ hk => hk.2) (.int .i64 t237)) (fun _ hk => hk.2) (.int .i64 t238)) (fun _ h_ => h_.1)))); (case side4 => exact (Kd.R_reads' HO217.out).2.1); (case side5 => refine (Kd.R_reads' (e:=120) (base := w.heap.size) (ok := fun k_ => (((True ∧ some k_ ≠ (.slice Ao42 t183.length co42 : Value).ownBlock) ∧ some k_ ≠ (.slice Ao44 t197.length co44 : Value).ownBlock) ∧ some k_ ≠ (.slice Ao53 t212.length co53 : Value).ownBlock)) (n:=t227.length) (c:=co62) ?_).2.2; exact (by (with_reducible repeat (first | apply Kd.R_alloc | apply Kd.R_drewN | apply Kd.R_drew)); exact (Kd.R_mono (Kd.R_far (p:=⟨gb239,9,none⟩) (Kd.R_far (p:=⟨gb239,8,none⟩) (Kd.R_far (p:=⟨gb239,7,none⟩) (Kd.R_far (p:=⟨gb239,6,none⟩) (Kd.R_far (p:=⟨gb239,5,none⟩) (Kd.R_far (p:=⟨gb239,4,none⟩) (Kd.R_far (p:=⟨gb239,3,none⟩) (Kd.R_far (p:=⟨gb239,2,none⟩) (Kd.R_far (p:=⟨gb239,1,none⟩) (Kd.R_far (p:=⟨gb239,0,none⟩) (Kd.R_types HO229.out BK239.out (by decide)) (fun _ hk => hk.2) (.int .i64 t225)) (fun _ hk => hk.2) (.int .i64 t226)) (fun _ hk => hk.2) (.slice Ao62 t227.length co62)) (fun _ hk => hk.2) (.slice Ao63 t230.length co63)) (fun _ hk => hk.2) (.int .i64 t233)) (fun _ hk => hk.2) (.int .i64 t234)) (fun _ hk => hk.2) (.int .i64 t235)) (fun _ hk => hk.2) (.int .i64 t236)) (fun _ hk => hk.2) (.int .i64 t237)) (fun _ hk => hk.2) (.int .i64 t238)) (fun _ h_ => h_.1)))); (case side6 => exact (Kd.R_reads' HO229.out).2.1); (case side7 => refine (Kd.R_reads' (e:=126) (base := w.heap.size) (ok := fun k_ => (((True ∧ some k_ ≠ (.slice Ao43 t186.length co43 : Value).ownBlock) ∧ some k_ ≠ (.slice Ao45 t200.length co45 : Value).ownBlock) ∧ some k_ ≠ (.slice Ao54 t215.length co54 : Value).ownBlock)) (n:=t230.length) (c:=co63) ?_).2.2; exact (by (with_reducible repeat (first | apply Kd.R_alloc | apply Kd.R_drewN | apply Kd.R_drew)); exact (Kd.R_mono (Kd.R_far (p:=⟨gb239,9,none⟩) (Kd.R_far (p:=⟨gb239,8,none⟩) (Kd.R_far (p:=⟨gb239,7,none⟩) (Kd.R_far (p:=⟨gb239,6,none⟩) (Kd.R_far (p:=⟨gb239,5,none⟩) (Kd.R_far (p:=⟨gb239,4,none⟩) (Kd.R_far (p:=⟨gb239,3,none⟩) (Kd.R_far (p:=⟨gb239,2,none⟩) (Kd.R_far (p:=⟨gb239,1,none⟩) (Kd.R_far (p:=⟨gb239,0,none⟩) (Kd.R_types HO232.out BK239.out (by decide)) (fun _ hk => hk.2) (.int .i64 t225)) (fun _ hk => hk.2) (.int .i64 t226)) (fun _ hk => hk.2) (.slice Ao62 t227.length co62)) (fun _ hk => hk.2) (.slice Ao63 t230.length co63)) (fun _ hk => hk.2) (.int .i64 t233)) (fun _ hk => hk.2) (.int .i64 t234)) (fun _ hk => hk.2) (.int .i64 t235)) (fun _ hk => hk.2) (.int .i64 t236)) (fun _ hk => hk.2) (.int .i64 t237)) (fun _ hk => hk.2) (.int .i64 t238)) (fun _ h_ => h_.1)))); (case side8 => exact (Kd.R_reads' HO232.out).2.1); rintro e w65 ⟨rfl,hb⟩; refine ⟨_,rfl,?_⟩; have n0_ := Aside0.mk (Kd.R_below (by (with_reducible repeat (first | apply Kd.R_alloc | apply Kd.R_drewN | apply Kd.R_drew)); exact (Kd.R_mono (Kd.R_far (p:=⟨gb239,9,none⟩) (Kd.R_far (p:=⟨gb239,8,none⟩) (Kd.R_far (p:=⟨gb239,7,none⟩) (Kd.R_far (p:=⟨gb239,6,none⟩) (Kd.R_far (p:=⟨gb239,5,none⟩) (Kd.R_far (p:=⟨gb239,4,none⟩) (Kd.R_far (p:=⟨gb239,3,none⟩) (Kd.R_far (p:=⟨gb239,2,none⟩) (Kd.R_far (p:=⟨gb239,1,none⟩) (Kd.R_far (p:=⟨gb239,0,none⟩) (Kd.R_types HO185.out BK239.out (by decide)) (fun _ hk => hk.2) (.int .i64 t225)) (fun _ hk => hk.2) (.int .i64 t226)) (fun _ hk => hk.2) (.slice Ao62 t227.length co62)) (fun _ hk => hk.2) (.slice Ao63 t230.length co63)) (fun _ hk => hk.2) (.int .i64 t233)) (fun _ hk => hk.2) (.int .i64 t234)) (fun _ hk => hk.2) (.int .i64 t235)) (fun _ hk => hk.2) (.int .i64 t236)) (fun _ hk => hk.2) (.int .i64 t237)) (fun _ hk => hk.2) (.int .i64 t238)) (fun _ h_ => h_.1))) hb); have n1_ := Aside0.mk (Kd.R_below (by (with_reducible repeat (first | apply Kd.R_alloc | apply Kd.R_drewN | apply Kd.R_drew)); exact (Kd.R_mono (Kd.R_far (p:=⟨gb239,9,none⟩) (Kd.R_far (p:=⟨gb239,8,none⟩) (Kd.R_far (p:=⟨gb239,7,none⟩) (Kd.R_far (p:=⟨gb239,6,none⟩) (Kd.R_far (p:=⟨gb239,5,none⟩) (Kd.R_far (p:=⟨gb239,4,none⟩) (Kd.R_far (p:=⟨gb239,3,none⟩) (Kd.R_far (p:=⟨gb239,2,none⟩) (Kd.R_far (p:=⟨gb239,1,none⟩) (Kd.R_far (p:=⟨gb239,0,none⟩) (Kd.R_types HO188.out BK239.out (by decide)) (fun _ hk => hk.2) (.int .i64 t225)) (fun _ hk => hk.2) (.int .i64 t226)) (fun _ hk => hk.2) (.slice Ao62 t227.length co62)) (fun _ hk => hk.2) (.slice Ao63 t230.length co63)) (fun _ hk => hk.2) (.int .i64 t233)) (fun _ hk => hk.2) (.int .i64 t234)) (fun _ hk => hk.2) (.int .i64 t235)) (fun _ hk => hk.2) (.int .i64 t236)) (fun _ hk => hk.2) (.int .i64 t237)) (fun _ hk => hk.2) (.int .i64 t238)) (fun _ h_ => h_.1))) hb); have n2_ := Aside0.mk (Kd.R_below (by (with_reducible repeat (first | apply Kd.R_alloc | apply Kd.R_drewN | apply Kd.R_drew)); exact (Kd.R_mono (Kd.R_far (p:=⟨gb239,9,none⟩) (Kd.R_far (p:=⟨gb239,8,none⟩) (Kd.R_far (p:=⟨gb239,7,none⟩) (Kd.R_far (p:=⟨gb239,6,none⟩) (Kd.R_far (p:=⟨gb239,5,none⟩) (Kd.R_far (p:=⟨gb239,4,none⟩) (Kd.R_far (p:=⟨gb239,3,none⟩) (Kd.R_far (p:=⟨gb239,2,none⟩) (Kd.R_far (p:=⟨gb239,1,none⟩) (Kd.R_far (p:=⟨gb239,0,none⟩) (Kd.R_types HO199.out BK239.out (by decide)) (fun _ hk => hk.2) (.int .i64 t225)) (fun _ hk => hk.2) (.int .i64 t226)) (fun _ hk => hk.2) (.slice Ao62 t227.length co62)) (fun _ hk => hk.2) (.slice Ao63 t230.length co63)) (fun _ hk => hk.2) (.int .i64 t233)) (fun _ hk => hk.2) (.int .i64 t234)) (fun _ hk => hk.2) (.int .i64 t235)) (fun _ hk => hk.2) (.int .i64 t236)) (fun _ hk => hk.2) (.int .i64 t237)) (fun _ hk => hk.2) (.int .i64 t238)) (fun _ h_ => h_.1))) hb); have n3_ := Aside0.mk (Kd.R_below (by (with_reducible repeat (first | apply Kd.R_alloc | apply Kd.R_drewN | apply Kd.R_drew)); exact (Kd.R_mono (Kd.R_far (p:=⟨gb239,9,none⟩) (Kd.R_far (p:=⟨gb239,8,none⟩) (Kd.R_far (p:=⟨gb239,7,none⟩) (Kd.R_far (p:=⟨gb239,6,none⟩) (Kd.R_far (p:=⟨gb239,5,none⟩) (Kd.R_far (p:=⟨gb239,4,none⟩) (Kd.R_far (p:=⟨gb239,3,none⟩) (Kd.R_far (p:=⟨gb239,2,none⟩) (Kd.R_far (p:=⟨gb239,1,none⟩) (Kd.R_far (p:=⟨gb239,0,none⟩) (Kd.R_types HO202.out BK239.out (by decide)) (fun _ hk => hk.2) (.int .i64 t225)) (fun _ hk => hk.2) (.int .i64 t226)) (fun _ hk => hk.2) (.slice Ao62 t227.length co62)) (fun _ hk => hk.2) (.slice Ao63 t230.length co63)) (fun _ hk => hk.2) (.int .i64 t233)) (fun _ hk => hk.2) (.int .i64 t234)) (fun _ hk => hk.2) (.int .i64 t235)) (fun _ hk => hk.2) (.int .i64 t236)) (fun _ hk => hk.2) (.int .i64 t237)) (fun _ hk => hk.2) (.int .i64 t238)) (fun _ h_ => h_.1))) hb); have n4_ := Aside0.mk (Kd.R_below (by (with_reducible repeat (first | apply Kd.R_alloc | apply Kd.R_drewN | apply Kd.R_drew)); exact (Kd.R_mono (Kd.R_far (p:=⟨gb239,9,none⟩) (Kd.R_far (p:=⟨gb239,8,none⟩) (Kd.R_far (p:=⟨gb239,7,none⟩) (Kd.R_far (p:=⟨gb239,6,none⟩) (Kd.R_far (p:=⟨gb239,5,none⟩) (Kd.R_far (p:=⟨gb239,4,none⟩) (Kd.R_far (p:=⟨gb239,3,none⟩) (Kd.R_far (p:=⟨gb239,2,none⟩) (Kd.R_far (p:=⟨gb239,1,none⟩) (Kd.R_far (p:=⟨gb239,0,none⟩) (Kd.R_types HO214.out BK239.out (by decide)) (fun _ hk => hk.2) (.int .i64 t225)) (fun _ hk => hk.2) (.int .i64 t226)) (fun _ hk => hk.2) (.slice Ao62 t227.length co62)) (fun _ hk => hk.2) (.slice Ao63 t230.length co63)) (fun _ hk => hk.2) (.int .i64 t233)) (fun _ hk => hk.2) (.int .i64 t234)) (fun _ hk => hk.2) (.int .i64 t235)) (fun _ hk => hk.2) (.int .i64 t236)) (fun _ hk => hk.2) (.int .i64 t237)) (fun _ hk => hk.2) (.int .i64 t238)) (fun _ h_ => h_.1))) hb); have n5_ := Aside0.mk (Kd.R_below (by (with_reducible repeat (first | apply Kd.R_alloc | apply Kd.R_drewN | apply Kd.R_drew)); exact (Kd.R_mono (Kd.R_far (p:=⟨gb239,9,none⟩) (Kd.R_far (p:=⟨gb239,8,none⟩) (Kd.R_far (p:=⟨gb239,7,none⟩) (Kd.R_far (p:=⟨gb239,6,none⟩) (Kd.R_far (p:=⟨gb239,5,none⟩) (Kd.R_far (p:=⟨gb239,4,none⟩) (Kd.R_far (p:=⟨gb239,3,none⟩) (Kd.R_far (p:=⟨gb239,2,none⟩) (Kd.R_far (p:=⟨gb239,1,none⟩) (Kd.R_far (p:=⟨gb239,0,none⟩) (Kd.R_types HO217.out BK239.out (by decide)) (fun _ hk => hk.2) (.int .i64 t225)) (fun _ hk => hk.2) (.int .i64 t226)) (fun _ hk => hk.2) (.slice Ao62 t227.length co62)) (fun _ hk => hk.2) (.slice Ao63 t230.length co63)) (fun _ hk => hk.2) (.int .i64 t233)) (fun _ hk => hk.2) (.int .i64 t234)) (fun _ hk => hk.2) (.int .i64 t235)) (fun _ hk => hk.2) (.int .i64 t236)) (fun _ hk => hk.2) (.int .i64 t237)) (fun _ hk => hk.2) (.int .i64 t238)) (fun _ h_ => h_.1))) hb); have n6_ := Aside0.mk (Kd.R_below (by (with_reducible repeat (first | apply Kd.R_alloc | apply Kd.R_drewN | apply Kd.R_drew)); exact (Kd.R_mono (Kd.R_far (p:=⟨gb239,9,none⟩) (Kd.R_far (p:=⟨gb239,8,none⟩) (Kd.R_far (p:=⟨gb239,7,none⟩) (Kd.R_far (p:=⟨gb239,6,none⟩) (Kd.R_far (p:=⟨gb239,5,none⟩) (Kd.R_far (p:=⟨gb239,4,none⟩) (Kd.R_far (p:=⟨gb239,3,none⟩) (Kd.R_far (p:=⟨gb239,2,none⟩) (Kd.R_far (p:=⟨gb239,1,none⟩) (Kd.R_far (p:=⟨gb239,0,none⟩) (Kd.R_types HO229.out BK239.out (by decide)) (fun _ hk => hk.2) (.int .i64 t225)) (fun _ hk => hk.2) (.int .i64 t226)) (fun _ hk => hk.2) (.slice Ao62 t227.length co62)) (fun _ hk => hk.2) (.slice Ao63 t230.length co63)) (fun _ hk => hk.2) (.int .i64 t233)) (fun _ hk => hk.2) (.int .i64 t234)) (fun _ hk => hk.2) (.int .i64 t235)) (fun _ hk => hk.2) (.int .i64 t236)) (fun _ hk => hk.2) (.int .i64 t237)) (fun _ hk => hk.2) (.int .i64 t238)) (fun _ h_ => h_.1))) hb); have n7_ := Aside0.mk (Kd.R_below (by (with_reducible repeat (first | apply Kd.R_alloc | apply Kd.R_drewN | apply Kd.R_drew)); exact (Kd.R_mono (Kd.R_far (p:=⟨gb239,9,none⟩) (Kd.R_far (p:=⟨gb239,8,none⟩) (Kd.R_far (p:=⟨gb239,7,none⟩) (Kd.R_far (p:=⟨gb239,6,none⟩) (Kd.R_far (p:=⟨gb239,5,none⟩) (Kd.R_far (p:=⟨gb239,4,none⟩) (Kd.R_far (p:=⟨gb239,3,none⟩) (Kd.R_far (p:=⟨gb239,2,none⟩) (Kd.R_far (p:=⟨gb239,1,none⟩) (Kd.R_far (p:=⟨gb239,0,none⟩) (Kd.R_types HO232.out BK239.out (by decide)) (fun _ hk => hk.2) (.int .i64 t225)) (fun _ hk => hk.2) (.int .i64 t226)) (fun _ hk => hk.2) (.slice Ao62 t227.length co62)) (fun _ hk => hk.2) (.slice Ao63 t230.length co63)) (fun _ hk => hk.2) (.int .i64 t233)) (fun _ hk => hk.2) (.int .i64 t234)) (fun _ hk => hk.2) (.int .i64 t235)) (fun _ hk => hk.2) (.int .i64 t236)) (fun _ hk => hk.2) (.int .i64 t237)) (fun _ hk => hk.2) (.int .i64 t238)) (fun _ h_ => h_.1))) hb); have n8_ := Aside0.mk (blk_below (g:=gb177) (o:=.cells #[.int .i64 a0_0,.int .i64 a0_1,.slice A0_2 l0_2.length c0_2,.slice A0_3 l0_3.length c0_3,.int .i64 a0_4,.int .i64 a0_5,.int .i64 a0_6,.int .i64 a0_7,.int .i64 a0_8,.int .i64 a0_9] 82 (0,0)) (kF BK177.out) hb); have n9_ := Aside0.mk (blk_below (g:=gb178) (o:=.cells #[.int .i64 a1_0,.int .i64 a1_1,.slice A1_2 l1_2.length c1_2,.slice A1_3 l1_3.length c1_3,.int .i64 a1_4,.int .i64 a1_5,.int .i64 a1_6,.int .i64 a1_7,.int .i64 a1_8,.int .i64 a1_9] 82 (0,0)) (kF BK178.out) hb); have n10_ := Aside0.mk (blk_below (g:=gb224) (o:=.cells #[.int .i64 t210,.int .i64 t211,.slice Ao53 t212.length co53,.slice Ao54 t215.length co54,.int .i64 t218,.int .i64 t219,.int .i64 t220,.int .i64 t221,.int .i64 t222,.int .i64 t223] 87 (0,0)) (kF BK224.out) hb); have n11_ := Aside0.mk (blk_below (g:=gb239) (o:=.cells #[.int .i64 t225,.int .i64 t226,.slice Ao62 t227.length co62,.slice Ao63 t230.length co63,.int .i64 t233,.int .i64 t234,.int .i64 t235,.int .i64 t236,.int .i64 t237,.int .i64 t238] 87 (0,0)) (by (with_reducible repeat (first | refine blk_drewN ?_ _ | refine blk_drew ?_ | refine blk_alloc ?_ _)); refine blk_put (cs := #[.int .i64 t225,.int .i64 t226,.slice Ao62 t227.length co62,.slice Ao63 t230.length co63,.int .i64 t233,.int .i64 t234,.int .i64 t235,.int .i64 t236,.int .i64 t237,.int .i64 0]) ?_ 9 _ rfl; (with_reducible repeat (first | refine blk_drewN ?_ _ | refine blk_drew ?_ | refine blk_alloc ?_ _)); refine blk_put (cs := #[.int .i64 t225,.int .i64 t226,.slice Ao62 t227.length co62,.slice Ao63 t230.length co63,.int .i64 t233,.int .i64 t234,.int .i64 t235,.int .i64 t236,.int .i64 0,.int .i64 0]) ?_ 8 _ rfl; (with_reducible repeat (first | refine blk_drewN ?_ _ | refine blk_drew ?_ | refine blk_alloc ?_ _)); refine blk_put (cs := #[.int .i64 t225,.int .i64 t226,.slice Ao62 t227.length co62,.slice Ao63 t230.length co63,.int .i64 t233,.int .i64 t234,.int .i64 t235,.int .i64 0,.int .i64 0,.int .i64 0]) ?_ 7 _ rfl; (with_reducible repeat (first | refine blk_drewN ?_ _ | refine blk_drew ?_ | refine blk_alloc ?_ _)); refine blk_put (cs := #[.int .i64 t225,.int .i64 t226,.slice Ao62 t227.length co62,.slice Ao63 t230.length co63,.int .i64 t233,.int .i64 t234,.int .i64 0,.int .i64 0,.int .i64 0,.int .i64 0]) ?_ 6 _ rfl; (with_reducible repeat (first | refine blk_drewN ?_ _ | refine blk_drew ?_ | refine blk_alloc ?_ _)); refine blk_put (cs := #[.int .i64 t225,.int .i64 t226,.slice Ao62 t227.length co62,.slice Ao63 t230.length co63,.int .i64 t233,.int .i64 0,.int .i64 0,.int .i64 0,.int .i64 0,.int .i64 0]) ?_ 5 _ rfl; (with_reducible repeat (first | refine blk_drewN ?_ _ | refine blk_drew ?_ | refine blk_alloc ?_ _)); refine blk_put (cs := #[.int .i64 t225,.int .i64 t226,.slice Ao62 t227.length co62,.slice Ao63 t230.length co63,.int .i64 0,.int .i64 0,.int .i64 0,.int .i64 0,.int .i64 0,.int .i64 0]) ?_ 4 _ rfl; (with_reducible repeat (first | refine blk_drewN ?_ _ | refine blk_drew ?_ | refine blk_alloc ?_ _)); refine blk_put (cs := #[.int .i64 t225,.int .i64 t226,.slice Ao62 t227.length co62,.slice none 0 0,.int .i64 0,.int .i64 0,.int .i64 0,.int .i64 0,.int .i64 0,.int .i64 0]) ?_ 3 _ rfl; (with_reducible repeat (first | refine blk_drewN ?_ _ | refine blk_drew ?_ | refine blk_alloc ?_ _)); refine blk_put (cs := #[.int .i64 t225,.int .i64 t226,.slice none 0 0,.slice none 0 0,.int .i64 0,.int .i64 0,.int .i64 0,.int .i64 0,.int .i64 0,.int .i64 0]) ?_ 2 _ rfl; (with_reducible repeat (first | refine blk_drewN ?_ _ | refine blk_drew ?_ | refine blk_alloc ?_ _)); refine blk_put (cs := #[.int .i64 t225,.int .i64 0,.slice none 0 0,.slice none 0 0,.int .i64 0,.int .i64 0,.int .i64 0,.int .i64 0,.int .i64 0,.int .i64 0]) ?_ 1 _ rfl; (with_reducible repeat (first | refine blk_drewN ?_ _ | refine blk_drew ?_ | refine blk_alloc ?_ _)); refine blk_put (cs := #[.int .i64 0,.int .i64 0,.slice none 0 0,.slice none 0 0,.int .i64 0,.int .i64 0,.int .i64 0,.int .i64 0,.int .i64 0,.int .i64 0]) ?_ 0 _ rfl; (with_reducible repeat (first | refine blk_drewN ?_ _ | refine blk_drew ?_ | refine blk_alloc ?_ _)); exact BK239.out) hb); have n12_ := Aside0.mk (below_step bA hb); clear HO185; clear HO188; clear HO199; clear HO202; clear HO214; clear HO217; clear HO229; clear HO232; clear BK177; clear BK178; clear BK224; clear BK239; clear HB; have HO185 := n0_; have HO188 := n1_; have HO199 := n2_; have HO202 := n3_; have HO214 := n4_; have HO217 := n5_; have HO229 := n6_; have HO232 := n7_; have BK177 := n8_; have BK178 := n9_; have BK224 := n10_; have BK239 := n11_; have HB := n12_; clear n0_ n1_ n2_ n3_ n4_ n5_ n6_ n7_ n8_ n9_ n10_ n11_ n12_; (try clear hb); (try clear hb2); (try clear hk); (try clear hi)))
       have n0_ := Aside0.mk (Kd.R_drew HO185.out)
       have n1_ := Aside0.mk (Kd.R_drew HO188.out)
       have n2_ := Aside0.mk (Kd.R_drew HO199.out)
       have n3_ := Aside0.mk (Kd.R_drew HO202.out)
       have n4_ := Aside0.mk (Kd.R_drew HO214.out)
       have n5_ := Aside0.mk (Kd.R_drew HO217.out)
       have n6_ := Aside0.mk (Kd.R_drew HO229.out)
       have n7_ := Aside0.mk (Kd.R_drew HO232.out)
       have n8_ := Aside0.mk (blk_drew BK177.out)
       have n9_ := Aside0.mk (blk_drew BK178.out)
       have n10_ := Aside0.mk (blk_drew BK224.out)
       have n11_ := Aside0.mk (blk_drew BK239.out)
       have n12_ := Aside0.mk (below_drew1 HB.out)
       clear HO185
       clear HO188
       clear HO199
       clear HO202
       clear HO214
       clear HO217
       clear HO229
       clear HO232
       clear BK177
       clear BK178
       clear BK224
       clear BK239
       clear HB
       have HO185 := n0_
       have HO188 := n1_
       have HO199 := n2_
       have HO202 := n3_
       have HO214 := n4_
       have HO217 := n5_
       have HO229 := n6_
       have HO232 := n7_
       have BK177 := n8_
       have BK178 := n9_
       have BK224 := n10_
       have BK239 := n11_
       have HB := n12_
       clear n0_ n1_ n2_ n3_ n4_ n5_ n6_ n7_ n8_ n9_ n10_ n11_ n12_
       rename_i zp7_1 zp7_2 zp7_3 zp7_4; revert k a0_0 a0_1 A0_2 c0_2 l0_2 A0_3 c0_3 l0_3 a0_4 a0_5 a0_6 a0_7 a0_8 a0_9 a1_0 a1_1 A1_2 c1_2 l1_2 A1_3 c1_3 l1_3 a1_4 a1_5 a1_6 a1_7 a1_8 a1_9 w hu82 hu87 HR0_2 HC0_2 HR0_3 HC0_3 HR1_2 HC1_2 HR1_3 HC1_3 t179 A3 c4b0 t180 A10 c11b0 t181 t182 t183 t186 t189 t190 t191 t192 t193 t194 A19 t195 t196 t197 t200 t203 t204 t205 t206 t207 t208 A20 t209 A21 t210 t211 t212 t215 t218 t219 t220 t221 t222 t223 A22 t225 t226 t227 t230 t233 t234 t235 t236 t237 t238 A23 t240 A24 c25b0 c25b1 c25b2 t241 t242 t243 t246 t249 t250 t251 t252 t253 t254 A26 A27 t256 t257 t258 t261 t264 t265 t266 t267 t268 t269 A29 A30 zq6_1 gb177 w32 GW177 GE177 gb178 w33 GW178 GE178 NB177_178 NB178_177 hnb34 hnc34 hcz35_0 hcz35_1 hcz35_2 hcz35_3 hcz35_4 hcz35_5 hcz35_6 hcz35_7 hcz35_8 hcz35_9 hfz35_0 hfz35_1 hfz35_2 hfz35_3 hfz35_4 hfz35_5 hfz35_6 hfz35_7 hfz35_8 hfz35_9 w36 hcz37_0 hcz37_1 hcz37_2 hcz37_3 hcz37_4 hcz37_5 hcz37_6 hcz37_7 hcz37_8 hcz37_9 hfz37_0 hfz37_1 hfz37_2 hfz37_3 hfz37_4 hfz37_5 hfz37_6 hfz37_7 hfz37_8 hfz37_9 w38 H w39 zq6_2 w40 zq6_3 w41 Ao42 co42 Ao43 co43 Ao44 co44 Ao45 co45 zq6_4 w46 hHeld hcz47_0 hcz47_1 hcz47_2 hcz47_3 hcz47_4 hcz47_5 hcz47_6 hcz47_7 hcz47_8 hcz47_9 hfz47_0 hfz47_1 hfz47_2 hfz47_3 hfz47_4 hfz47_5 hfz47_6 hfz47_7 hfz47_8 hfz47_9 w48 gb224 w49 GW224 GE224 NB177_224 NB224_177 NB178_224 NB224_178 hnb50 hnc50 hnb51 hnc51 hcz52_0 hcz52_1 hcz52_2 hcz52_3 hcz52_4 hcz52_5 hcz52_6 hcz52_7 hcz52_8 hcz52_9 hfz52_0 hfz52_1 hfz52_2 hfz52_3 hfz52_4 hfz52_5 hfz52_6 hfz52_7 hfz52_8 hfz52_9 Ao53 co53 Ao54 co54 hcz55_0 hcz55_1 hcz55_2 hcz55_3 hcz55_4 hcz55_5 hcz55_6 hcz55_7 hcz55_8 hcz55_9 hfz55_0 hfz55_1 hfz55_2 hfz55_3 hfz55_4 hfz55_5 hfz55_6 hfz55_7 hfz55_8 hfz55_9 w56 gb239 w57 GW239 GE239 NB177_239 NB239_177 NB178_239 NB239_178 NB224_239 NB239_224 hnb58 hnc58 hnb59 hnc59 hnb60 hnc60 hcz61_0 hcz61_1 hcz61_2 hcz61_3 hcz61_4 hcz61_5 hcz61_6 hcz61_7 hcz61_8 hcz61_9 hfz61_0 hfz61_1 hfz61_2 hfz61_3 hfz61_4 hfz61_5 hfz61_6 hfz61_7 hfz61_8 hfz61_9 Ao62 co62 Ao63 co63 hcz64_0 hcz64_1 hcz64_2 hcz64_3 hcz64_4 hcz64_5 hcz64_6 hcz64_7 hcz64_8 hcz64_9 hfz64_0 hfz64_1 hfz64_2 hfz64_3 hfz64_4 hfz64_5 hfz64_6 hfz64_7 hfz64_8 hfz64_9 w65 zp7_1 zp7_2 zp7_3 zp7_4 HO185 HO188 HO199 HO202 HO214 HO217 HO229 HO232 BK177 BK178 BK224 BK239 HB; exact hm_.out
set_option maxHeartbeats 8000000 in
set_option maxRecDepth 100000 in
noncomputable def FnExactSameState_cut8 : PSigma (fun M_ : Prop => CutW M_ → FnExactSameState_cut7.1) := by
      apply PSigma.mk
      case snd =>
       intro hm_
       intro k a0_0 a0_1 A0_2 c0_2 l0_2 A0_3 c0_3 l0_3 a0_4 a0_5 a0_6 a0_7 a0_8 a0_9 a1_0 a1_1 A1_2 c1_2 l1_2 A1_3 c1_3 l1_3 a1_4 a1_5 a1_6 a1_7 a1_8 a1_9 w hu82 hu87 HR0_2 HC0_2 HR0_3 HC0_3 HR1_2 HC1_2 HR1_3 HC1_3 t179 A3 c4b0 t180 A10 c11b0 t181 t182 t183 t186 t189 t190 t191 t192 t193 t194 A19 t195 t196 t197 t200 t203 t204 t205 t206 t207 t208 A20 t209 A21 t210 t211 t212 t215 t218 t219 t220 t221 t222 t223 A22 t225 t226 t227 t230 t233 t234 t235 t236 t237 t238 A23 t240 A24 c25b0 c25b1 c25b2 t241 t242 t243 t246 t249 t250 t251 t252 t253 t254 A26 A27 t256 t257 t258 t261 t264 t265 t266 t267 t268 t269 A29 A30 zq7_1 gb177 w32 GW177 GE177 gb178 w33 GW178 GE178 NB177_178 NB178_177 hnb34 hnc34 hcz35_0 hcz35_1 hcz35_2 hcz35_3 hcz35_4 hcz35_5 hcz35_6 hcz35_7 hcz35_8 hcz35_9 hfz35_0 hfz35_1 hfz35_2 hfz35_3 hfz35_4 hfz35_5 hfz35_6 hfz35_7 hfz35_8 hfz35_9 w36 hcz37_0 hcz37_1 hcz37_2 hcz37_3 hcz37_4 hcz37_5 hcz37_6 hcz37_7 hcz37_8 hcz37_9 hfz37_0 hfz37_1 hfz37_2 hfz37_3 hfz37_4 hfz37_5 hfz37_6 hfz37_7 hfz37_8 hfz37_9 w38 H w39 zq7_2 w40 zq7_3 w41 Ao42 co42 Ao43 co43 Ao44 co44 Ao45 co45 zq7_4 w46 hHeld hcz47_0 hcz47_1 hcz47_2 hcz47_3 hcz47_4 hcz47_5 hcz47_6 hcz47_7 hcz47_8 hcz47_9 hfz47_0 hfz47_1 hfz47_2 hfz47_3 hfz47_4 hfz47_5 hfz47_6 hfz47_7 hfz47_8 hfz47_9 w48 gb224 w49 GW224 GE224 NB177_224 NB224_177 NB178_224 NB224_178 hnb50 hnc50 hnb51 hnc51 hcz52_0 hcz52_1 hcz52_2 hcz52_3 hcz52_4 hcz52_5 hcz52_6 hcz52_7 hcz52_8 hcz52_9 hfz52_0 hfz52_1 hfz52_2 hfz52_3 hfz52_4 hfz52_5 hfz52_6 hfz52_7 hfz52_8 hfz52_9 Ao53 co53 Ao54 co54 hcz55_0 hcz55_1 hcz55_2 hcz55_3 hcz55_4 hcz55_5 hcz55_6 hcz55_7 hcz55_8 hcz55_9 hfz55_0 hfz55_1 hfz55_2 hfz55_3 hfz55_4 hfz55_5 hfz55_6 hfz55_7 hfz55_8 hfz55_9 w56 gb239 w57 GW239 GE239 NB177_239 NB239_177 NB178_239 NB239_178 NB224_239 NB239_224 hnb58 hnc58 hnb59 hnc59 hnb60 hnc60 hcz61_0 hcz61_1 hcz61_2 hcz61_3 hcz61_4 hcz61_5 hcz61_6 hcz61_7 hcz61_8 hcz61_9 hfz61_0 hfz61_1 hfz61_2 hfz61_3 hfz61_4 hfz61_5 hfz61_6 hfz61_7 hfz61_8 hfz61_9 Ao62 co62 Ao63 co63 hcz64_0 hcz64_1 hcz64_2 hcz64_3 hcz64_4 hcz64_5 hcz64_6 hcz64_7 hcz64_8 hcz64_9 hfz64_0 hfz64_1 hfz64_2 hfz64_3 hfz64_4 hfz64_5 hfz64_6 hfz64_7 hfz64_8 hfz64_9 w65 zq7_5 zq7_6 zq7_7 zq7_8 HO185 HO188 HO199 HO202 HO214 HO217 HO229 HO232 BK177 BK178 BK224 BK239 HB
       refine start_ (n:=5) (S:=fun w' => w'.cell? ⟨gb224,0,none⟩ = some (.int .i64 t210) ∧ w'.cell? ⟨gb224,1,none⟩ = some (.int .i64 t211) ∧ w'.cell? ⟨gb224,2,none⟩ = some (.slice Ao53 t212.length co53) ∧ w'.cell? ⟨gb224,3,none⟩ = some (.slice Ao54 t215.length co54) ∧ w'.cell? ⟨gb224,4,none⟩ = some (.int .i64 t218) ∧ w'.cell? ⟨gb224,5,none⟩ = some (.int .i64 t219) ∧ w'.cell? ⟨gb224,6,none⟩ = some (.int .i64 t220) ∧ w'.cell? ⟨gb224,7,none⟩ = some (.int .i64 t221) ∧ w'.cell? ⟨gb224,8,none⟩ = some (.int .i64 t222) ∧ w'.cell? ⟨gb224,9,none⟩ = some (.int .i64 t223) ∧ w'.cell? ⟨gb177,0,none⟩ = some (.int .i64 a0_0) ∧ w'.cell? ⟨gb177,1,none⟩ = some (.int .i64 a0_1) ∧ w'.cell? ⟨gb177,2,none⟩ = some (.slice A0_2 l0_2.length c0_2) ∧ w'.cell? ⟨gb177,3,none⟩ = some (.slice A0_3 l0_3.length c0_3) ∧ w'.cell? ⟨gb177,4,none⟩ = some (.int .i64 a0_4) ∧ w'.cell? ⟨gb177,5,none⟩ = some (.int .i64 a0_5) ∧ w'.cell? ⟨gb177,6,none⟩ = some (.int .i64 a0_6) ∧ w'.cell? ⟨gb177,7,none⟩ = some (.int .i64 a0_7) ∧ w'.cell? ⟨gb177,8,none⟩ = some (.int .i64 a0_8) ∧ w'.cell? ⟨gb177,9,none⟩ = some (.int .i64 a0_9)) (ds := []) (bm 5 0) (by kernel_rfl) rfl rfl ⟨(blk_cell BK224.out 0).trans rfl,(blk_cell BK224.out 1).trans rfl,(blk_cell BK224.out 2).trans rfl,(blk_cell BK224.out 3).trans rfl,(blk_cell BK224.out 4).trans rfl,(blk_cell BK224.out 5).trans rfl,(blk_cell BK224.out 6).trans rfl,(blk_cell BK224.out 7).trans rfl,(blk_cell BK224.out 8).trans rfl,(blk_cell BK224.out 9).trans rfl,(blk_cell BK177.out 0).trans rfl,(blk_cell BK177.out 1).trans rfl,(blk_cell BK177.out 2).trans rfl,(blk_cell BK177.out 3).trans rfl,(blk_cell BK177.out 4).trans rfl,(blk_cell BK177.out 5).trans rfl,(blk_cell BK177.out 6).trans rfl,(blk_cell BK177.out 7).trans rfl,(blk_cell BK177.out 8).trans rfl,(blk_cell BK177.out 9).trans rfl⟩ (fun hHeld => ?_)
       generalize w65.drew = w66 at HO185 HO188 HO199 HO202 HO214 HO217 HO229 HO232 BK177 BK178 BK224 BK239 HB hHeld ⊢
       refine take_ (i:=0) (N:=some 35) (v:=?_) (a':=?_) (bm 5 1) rfl rfl (by kernel_rfl) (fun _ _ _ h => h) (Or.inl ⟨by rfl,?_⟩) hHeld ?_ ?_
       rotate_left
       ·rintro w' ⟨s0,s1,s2,s3,s4,s5,s6,s7,s8,s9,s10,s11,s12,s13,s14,s15,s16,s17,s18,s19⟩
        go_simp
        with_reducible rfl
       rotate_left
       ·simp only [Act.put,setIfInBounds_toArray,set_cons_zero,set_cons_succ,i64_w,i32_w]
        rfl
       refine take_ (i:=1) (N:=some 36) (v:=?_) (a':=?_) (bm 5 3) rfl rfl (by kernel_rfl) (fun _ _ _ h => h) (Or.inl ⟨by rfl,?_⟩) hHeld ?_ ?_
       rotate_left
       ·rintro w' ⟨s0,s1,s2,s3,s4,s5,s6,s7,s8,s9,s10,s11,s12,s13,s14,s15,s16,s17,s18,s19⟩
        go_simp
        with_reducible rfl
       rotate_left
       ·simp only [Act.put,setIfInBounds_toArray,set_cons_zero,set_cons_succ,i64_w,i32_w]
        rfl
       refine one_ (i:=2) (N:=some 37) (bm 5 7) rfl rfl (by kernel_rfl) (by decide) (fun K hK => ?_)
       refine goes_ Try.func43 (by kernel_rfl) rfl #[.agg #[.int .i64 a0_0,.int .i64 a0_1,.slice A0_2 l0_2.length c0_2,.slice A0_3 l0_3.length c0_3,.int .i64 a0_4,.int .i64 a0_5,.int .i64 a0_6,.int .i64 a0_7,.int .i64 a0_8,.int .i64 a0_9]] (by rfl) rfl rfl mA ?_
       with_reducible refine (laws_toState.calls k a0_0 a0_1 _ _ l0_2 _ _ l0_3 a0_4 a0_5 a0_6 a0_7 a0_8 a0_9 t241 t242 t243 t246 t249 t250 t251 t252 t253 t254 _ ?side1 ?side2 ?side3 ?side4 A26.out).mono ?_
       (case side1 => repeat (first | exact (Kd.C_below HR0_2.out HB.out) | (with_reducible refine Kd.C_alloc ?_ _) | (with_reducible refine Kd.C_drewN ?_ _) | (with_reducible refine Kd.C_drew ?_)))
       (case side2 => exact HC0_2.out)
       (case side3 => repeat (first | exact (Kd.C_below HR0_3.out HB.out) | (with_reducible refine Kd.C_alloc ?_ _) | (with_reducible refine Kd.C_drewN ?_ _) | (with_reducible refine Kd.C_drew ?_)))
       (case side4 => exact HC0_3.out)
       rintro e w67 ⟨v244,v247,rfl,ho0,ho1,hb⟩
       refine ⟨_,rfl,?_⟩
       have n0_ := Aside0.mk (Kd.R_elder' (rA HO185.out) (Kd.R_base ho0) hb)
       have n1_ := Aside0.mk (Kd.R_elder' (rA HO188.out) (Kd.R_base ho1) hb)
       have n2_ := Aside0.mk (Kd.R_elder' (rA HO199.out) (Kd.R_base ho0) hb)
       have n3_ := Aside0.mk (Kd.R_elder' (rA HO202.out) (Kd.R_base ho1) hb)
       have n4_ := Aside0.mk (Kd.R_elder' (rA HO214.out) (Kd.R_base ho0) hb)
       have n5_ := Aside0.mk (Kd.R_elder' (rA HO217.out) (Kd.R_base ho1) hb)
       have n6_ := Aside0.mk (Kd.R_elder' (rA HO229.out) (Kd.R_base ho0) hb)
       have n7_ := Aside0.mk (Kd.R_elder' (rA HO232.out) (Kd.R_base ho1) hb)
       have n8_ := Aside0.mk (Kd.R_lower (Kd.R_new' (Kd.R_new' (Kd.R_new' (Kd.R_new' ho0 (Kd.R_lt (rA HO185.out))) (Kd.R_lt (rA HO199.out))) (Kd.R_lt (rA HO214.out))) (Kd.R_lt (rA HO229.out))) (below_size bA))
       have n9_ := Aside0.mk (Kd.R_lower (Kd.R_new' (Kd.R_new' (Kd.R_new' (Kd.R_new' ho1 (Kd.R_lt (rA HO188.out))) (Kd.R_lt (rA HO202.out))) (Kd.R_lt (rA HO217.out))) (Kd.R_lt (rA HO232.out))) (below_size bA))
       have n10_ := Aside0.mk (blk_below (g:=gb177) (o:=.cells #[.int .i64 a0_0,.int .i64 a0_1,.slice A0_2 l0_2.length c0_2,.slice A0_3 l0_3.length c0_3,.int .i64 a0_4,.int .i64 a0_5,.int .i64 a0_6,.int .i64 a0_7,.int .i64 a0_8,.int .i64 a0_9] 82 (0,0)) (kA BK177.out) hb)
       have n11_ := Aside0.mk (blk_below (g:=gb178) (o:=.cells #[.int .i64 a1_0,.int .i64 a1_1,.slice A1_2 l1_2.length c1_2,.slice A1_3 l1_3.length c1_3,.int .i64 a1_4,.int .i64 a1_5,.int .i64 a1_6,.int .i64 a1_7,.int .i64 a1_8,.int .i64 a1_9] 82 (0,0)) (kA BK178.out) hb)
       have n12_ := Aside0.mk (blk_below (g:=gb224) (o:=.cells #[.int .i64 t210,.int .i64 t211,.slice Ao53 t212.length co53,.slice Ao54 t215.length co54,.int .i64 t218,.int .i64 t219,.int .i64 t220,.int .i64 t221,.int .i64 t222,.int .i64 t223] 87 (0,0)) (kA BK224.out) hb)
       have n13_ := Aside0.mk (blk_below (g:=gb239) (o:=.cells #[.int .i64 t225,.int .i64 t226,.slice Ao62 t227.length co62,.slice Ao63 t230.length co63,.int .i64 t233,.int .i64 t234,.int .i64 t235,.int .i64 t236,.int .i64 t237,.int .i64 t238] 87 (0,0)) (kA BK239.out) hb)
       have n14_ := Aside0.mk (below_step bA hb)
       clear HO185
       clear HO188
       clear HO199
       clear HO202
       clear HO214
       clear HO217
       clear HO229
       clear HO232
       clear BK177
       clear BK178
       clear BK224
       clear BK239
       clear HB
       have HO185 := n0_
       have HO188 := n1_
       have HO199 := n2_
       have HO202 := n3_
       have HO214 := n4_
       have HO217 := n5_
       have HO229 := n6_
       have HO232 := n7_
       have HO245 := n8_
       have HO248 := n9_
       have BK177 := n10_
       have BK178 := n11_
       have BK224 := n12_
       have BK239 := n13_
       have HB := n14_
       clear n0_ n1_ n2_ n3_ n4_ n5_ n6_ n7_ n8_ n9_ n10_ n11_ n12_ n13_ n14_
       (try clear hb)
       (try clear hb2)
       (try clear hk)
       (try clear hi)
       (try clear ho0)
       (try clear ho1)
       obtain ⟨Ao68,co68,eo68⟩ := Kd.R_slice HO245.out
       (first | subst eo68 | (injection eo68 with f1_ f2_ f3_; have f4_ := f1_.symm; have f5_ := f3_.symm; clear f1_ f2_ f3_; subst f4_; subst f5_))
       obtain ⟨Ao69,co69,eo69⟩ := Kd.R_slice HO248.out
       (first | subst eo69 | (injection eo69 with f1_ f2_ f3_; have f4_ := f1_.symm; have f5_ := f3_.symm; clear f1_ f2_ f3_; subst f4_; subst f5_))
       refine hK.out _ _ ⟨(blk_cell BK224.out 0).trans rfl,(blk_cell BK224.out 1).trans rfl,(blk_cell BK224.out 2).trans rfl,(blk_cell BK224.out 3).trans rfl,(blk_cell BK224.out 4).trans rfl,(blk_cell BK224.out 5).trans rfl,(blk_cell BK224.out 6).trans rfl,(blk_cell BK224.out 7).trans rfl,(blk_cell BK224.out 8).trans rfl,(blk_cell BK224.out 9).trans rfl,(blk_cell BK177.out 0).trans rfl,(blk_cell BK177.out 1).trans rfl,(blk_cell BK177.out 2).trans rfl,(blk_cell BK177.out 3).trans rfl,(blk_cell BK177.out 4).trans rfl,(blk_cell BK177.out 5).trans rfl,(blk_cell BK177.out 6).trans rfl,(blk_cell BK177.out 7).trans rfl,(blk_cell BK177.out 8).trans rfl,(blk_cell BK177.out 9).trans rfl⟩ (fun hHeld => ?_)
       clear hK K
       refine norm_ (a':=?_) ?_ ?_
       rotate_left
       ·show Act.put _ (some 37) _ = _
        simp only [Act.put,setIfInBounds_toArray,set_cons_zero,set_cons_succ,i64_w,i32_w]
        rfl
       refine one_ (i:=3) (N:=some 38) (bm 5 15) rfl rfl (by kernel_rfl) (by decide) (fun K hK => ?_)
       refine goes_ Try.func45 (by kernel_rfl) rfl #[.agg #[.int .i64 t210,.int .i64 t211,.slice Ao53 t212.length co53,.slice Ao54 t215.length co54,.int .i64 t218,.int .i64 t219,.int .i64 t220,.int .i64 t221,.int .i64 t222,.int .i64 t223],.agg #[.int .i64 t241,.int .i64 t242,.slice Ao68 t243.length co68,.slice Ao69 t246.length co69,.int .i64 t249,.int .i64 t250,.int .i64 t251,.int .i64 t252,.int .i64 t253,.int .i64 t254]] (by rfl) rfl rfl mA ?_
       with_reducible refine (laws_eqState.calls k t210 t211 _ _ t212 _ _ t215 t218 t219 t220 t221 t222 t223 t241 t242 _ _ t243 _ _ t246 t249 t250 t251 t252 t253 t254 true _ ?side1 ?side2 ?side3 ?side4 ?side5 ?side6 ?side7 ?side8 A27.out).mono ?_
       (case side1 => repeat (first | exact (Kd.R_reads' HO214.out).2.2 | (with_reducible refine Kd.C_alloc ?_ _) | (with_reducible refine Kd.C_drewN ?_ _) | (with_reducible refine Kd.C_drew ?_)))
       (case side2 => exact (Kd.R_reads' HO214.out).2.1)
       (case side3 => repeat (first | exact (Kd.R_reads' HO217.out).2.2 | (with_reducible refine Kd.C_alloc ?_ _) | (with_reducible refine Kd.C_drewN ?_ _) | (with_reducible refine Kd.C_drew ?_)))
       (case side4 => exact (Kd.R_reads' HO217.out).2.1)
       (case side5 => repeat (first | exact (Kd.R_reads' HO245.out).2.2 | (with_reducible refine Kd.C_alloc ?_ _) | (with_reducible refine Kd.C_drewN ?_ _) | (with_reducible refine Kd.C_drew ?_)))
       (case side6 => exact (Kd.R_reads' HO245.out).2.1)
       (case side7 => repeat (first | exact (Kd.R_reads' HO248.out).2.2 | (with_reducible refine Kd.C_alloc ?_ _) | (with_reducible refine Kd.C_drewN ?_ _) | (with_reducible refine Kd.C_drew ?_)))
       (case side8 => exact (Kd.R_reads' HO248.out).2.1)
       rintro e w70 ⟨rfl,hb⟩
       refine ⟨_,rfl,?_⟩
       have n0_ := Aside0.mk (Kd.R_below (rA HO185.out) hb)
       have n1_ := Aside0.mk (Kd.R_below (rA HO188.out) hb)
       have n2_ := Aside0.mk (Kd.R_below (rA HO199.out) hb)
       have n3_ := Aside0.mk (Kd.R_below (rA HO202.out) hb)
       have n4_ := Aside0.mk (Kd.R_below (rA HO214.out) hb)
       have n5_ := Aside0.mk (Kd.R_below (rA HO217.out) hb)
       have n6_ := Aside0.mk (Kd.R_below (rA HO229.out) hb)
       have n7_ := Aside0.mk (Kd.R_below (rA HO232.out) hb)
       have n8_ := Aside0.mk (Kd.R_below (rA HO245.out) hb)
       have n9_ := Aside0.mk (Kd.R_below (rA HO248.out) hb)
       have n10_ := Aside0.mk (blk_below (g:=gb177) (o:=.cells #[.int .i64 a0_0,.int .i64 a0_1,.slice A0_2 l0_2.length c0_2,.slice A0_3 l0_3.length c0_3,.int .i64 a0_4,.int .i64 a0_5,.int .i64 a0_6,.int .i64 a0_7,.int .i64 a0_8,.int .i64 a0_9] 82 (0,0)) (kA BK177.out) hb)
       have n11_ := Aside0.mk (blk_below (g:=gb178) (o:=.cells #[.int .i64 a1_0,.int .i64 a1_1,.slice A1_2 l1_2.length c1_2,.slice A1_3 l1_3.length c1_3,.int .i64 a1_4,.int .i64 a1_5,.int .i64 a1_6,.int .i64 a1_7,.int .i64 a1_8,.int .i64 a1_9] 82 (0,0)) (kA BK178.out) hb)
       have n12_ := Aside0.mk (blk_below (g:=gb224) (o:=.cells #[.int .i64 t210,.int .i64 t211,.slice Ao53 t212.length co53,.slice Ao54 t215.length co54,.int .i64 t218,.int .i64 t219,.int .i64 t220,.int .i64 t221,.int .i64 t222,.int .i64 t223] 87 (0,0)) (kA BK224.out) hb)
       have n13_ := Aside0.mk (blk_below (g:=gb239) (o:=.cells #[.int .i64 t225,.int .i64 t226,.slice Ao62 t227.length co62,.slice Ao63 t230.length co63,.int .i64 t233,.int .i64 t234,.int .i64 t235,.int .i64 t236,.int .i64 t237,.int .i64 t238] 87 (0,0)) (kA BK239.out) hb)
       have n14_ := Aside0.mk (below_step bA hb)
       clear HO185
       clear HO188
       clear HO199
       clear HO202
       clear HO214
       clear HO217
       clear HO229
       clear HO232
       clear HO245
       clear HO248
       clear BK177
       clear BK178
       clear BK224
       clear BK239
       clear HB
       have HO185 := n0_
       have HO188 := n1_
       have HO199 := n2_
       have HO202 := n3_
       have HO214 := n4_
       have HO217 := n5_
       have HO229 := n6_
       have HO232 := n7_
       have HO245 := n8_
       have HO248 := n9_
       have BK177 := n10_
       have BK178 := n11_
       have BK224 := n12_
       have BK239 := n13_
       have HB := n14_
       clear n0_ n1_ n2_ n3_ n4_ n5_ n6_ n7_ n8_ n9_ n10_ n11_ n12_ n13_ n14_
       (try clear hb)
       (try clear hb2)
       (try clear hk)
       (try clear hi)
       refine hK.out _ _ ⟨(blk_cell BK224.out 0).trans rfl,(blk_cell BK224.out 1).trans rfl,(blk_cell BK224.out 2).trans rfl,(blk_cell BK224.out 3).trans rfl,(blk_cell BK224.out 4).trans rfl,(blk_cell BK224.out 5).trans rfl,(blk_cell BK224.out 6).trans rfl,(blk_cell BK224.out 7).trans rfl,(blk_cell BK224.out 8).trans rfl,(blk_cell BK224.out 9).trans rfl,(blk_cell BK177.out 0).trans rfl,(blk_cell BK177.out 1).trans rfl,(blk_cell BK177.out 2).trans rfl,(blk_cell BK177.out 3).trans rfl,(blk_cell BK177.out 4).trans rfl,(blk_cell BK177.out 5).trans rfl,(blk_cell BK177.out 6).trans rfl,(blk_cell BK177.out 7).trans rfl,(blk_cell BK177.out 8).trans rfl,(blk_cell BK177.out 9).trans rfl⟩ (fun hHeld => ?_)
       clear hK K
       refine norm_ (a':=?_) ?_ ?_
       rotate_left
       ·show Act.put _ (some 38) _ = _
        simp only [Act.put,setIfInBounds_toArray,set_cons_zero,set_cons_succ,i64_w,i32_w]
        rfl
       refine pure_ (i:=4) (N:=some 39) (v:=?_) (a':=?_) (bm 5 31) rfl rfl (by kernel_rfl) (fun _ _ _ h => h) (Or.inl ⟨by rfl,?_⟩) ?_ ?_
       rotate_left
       ·intro w'
        go_simp
        with_reducible rfl
       rotate_left
       ·simp only [Act.put,setIfInBounds_toArray,set_cons_zero,set_cons_succ,i64_w,i32_w]
        rfl
       refine done_ (by kernel_rfl) ?_
       rename_i zp8_1 zp8_2 zp8_3; revert k a0_0 a0_1 A0_2 c0_2 l0_2 A0_3 c0_3 l0_3 a0_4 a0_5 a0_6 a0_7 a0_8 a0_9 a1_0 a1_1 A1_2 c1_2 l1_2 A1_3 c1_3 l1_3 a1_4 a1_5 a1_6 a1_7 a1_8 a1_9 w hu82 hu87 HR0_2 HC0_2 HR0_3 HC0_3 HR1_2 HC1_2 HR1_3 HC1_3 t179 A3 c4b0 t180 A10 c11b0 t181 t182 t183 t186 t189 t190 t191 t192 t193 t194 A19 t195 t196 t197 t200 t203 t204 t205 t206 t207 t208 A20 t209 A21 t210 t211 t212 t215 t218 t219 t220 t221 t222 t223 A22 t225 t226 t227 t230 t233 t234 t235 t236 t237 t238 A23 t240 A24 c25b0 c25b1 c25b2 t241 t242 t243 t246 t249 t250 t251 t252 t253 t254 A26 A27 t256 t257 t258 t261 t264 t265 t266 t267 t268 t269 A29 A30 zq7_1 gb177 w32 GW177 GE177 gb178 w33 GW178 GE178 NB177_178 NB178_177 hnb34 hnc34 hcz35_0 hcz35_1 hcz35_2 hcz35_3 hcz35_4 hcz35_5 hcz35_6 hcz35_7 hcz35_8 hcz35_9 hfz35_0 hfz35_1 hfz35_2 hfz35_3 hfz35_4 hfz35_5 hfz35_6 hfz35_7 hfz35_8 hfz35_9 w36 hcz37_0 hcz37_1 hcz37_2 hcz37_3 hcz37_4 hcz37_5 hcz37_6 hcz37_7 hcz37_8 hcz37_9 hfz37_0 hfz37_1 hfz37_2 hfz37_3 hfz37_4 hfz37_5 hfz37_6 hfz37_7 hfz37_8 hfz37_9 w38 H w39 zq7_2 w40 zq7_3 w41 Ao42 co42 Ao43 co43 Ao44 co44 Ao45 co45 zq7_4 w46 zp8_1 hcz47_0 hcz47_1 hcz47_2 hcz47_3 hcz47_4 hcz47_5 hcz47_6 hcz47_7 hcz47_8 hcz47_9 hfz47_0 hfz47_1 hfz47_2 hfz47_3 hfz47_4 hfz47_5 hfz47_6 hfz47_7 hfz47_8 hfz47_9 w48 gb224 w49 GW224 GE224 NB177_224 NB224_177 NB178_224 NB224_178 hnb50 hnc50 hnb51 hnc51 hcz52_0 hcz52_1 hcz52_2 hcz52_3 hcz52_4 hcz52_5 hcz52_6 hcz52_7 hcz52_8 hcz52_9 hfz52_0 hfz52_1 hfz52_2 hfz52_3 hfz52_4 hfz52_5 hfz52_6 hfz52_7 hfz52_8 hfz52_9 Ao53 co53 Ao54 co54 hcz55_0 hcz55_1 hcz55_2 hcz55_3 hcz55_4 hcz55_5 hcz55_6 hcz55_7 hcz55_8 hcz55_9 hfz55_0 hfz55_1 hfz55_2 hfz55_3 hfz55_4 hfz55_5 hfz55_6 hfz55_7 hfz55_8 hfz55_9 w56 gb239 w57 GW239 GE239 NB177_239 NB239_177 NB178_239 NB239_178 NB224_239 NB239_224 hnb58 hnc58 hnb59 hnc59 hnb60 hnc60 hcz61_0 hcz61_1 hcz61_2 hcz61_3 hcz61_4 hcz61_5 hcz61_6 hcz61_7 hcz61_8 hcz61_9 hfz61_0 hfz61_1 hfz61_2 hfz61_3 hfz61_4 hfz61_5 hfz61_6 hfz61_7 hfz61_8 hfz61_9 Ao62 co62 Ao63 co63 hcz64_0 hcz64_1 hcz64_2 hcz64_3 hcz64_4 hcz64_5 hcz64_6 hcz64_7 hcz64_8 hcz64_9 hfz64_0 hfz64_1 hfz64_2 hfz64_3 hfz64_4 hfz64_5 hfz64_6 hfz64_7 hfz64_8 hfz64_9 w65 zq7_5 zq7_6 zq7_7 zq7_8 w66 zp8_2 w67 Ao68 co68 Ao69 co69 zp8_3 w70 HO185 HO188 HO199 HO202 HO214 HO217 HO229 HO232 HO245 HO248 BK177 BK178 BK224 BK239 HB hHeld; exact hm_.out
set_option maxHeartbeats 8000000 in
set_option maxRecDepth 100000 in
noncomputable def FnExactSameState_cut9 : PSigma (fun M_ : Prop => CutW M_ → FnExactSameState_cut8.1) := by
      apply PSigma.mk
      case snd =>
       intro hm_
       intro k a0_0 a0_1 A0_2 c0_2 l0_2 A0_3 c0_3 l0_3 a0_4 a0_5 a0_6 a0_7 a0_8 a0_9 a1_0 a1_1 A1_2 c1_2 l1_2 A1_3 c1_3 l1_3 a1_4 a1_5 a1_6 a1_7 a1_8 a1_9 w hu82 hu87 HR0_2 HC0_2 HR0_3 HC0_3 HR1_2 HC1_2 HR1_3 HC1_3 t179 A3 c4b0 t180 A10 c11b0 t181 t182 t183 t186 t189 t190 t191 t192 t193 t194 A19 t195 t196 t197 t200 t203 t204 t205 t206 t207 t208 A20 t209 A21 t210 t211 t212 t215 t218 t219 t220 t221 t222 t223 A22 t225 t226 t227 t230 t233 t234 t235 t236 t237 t238 A23 t240 A24 c25b0 c25b1 c25b2 t241 t242 t243 t246 t249 t250 t251 t252 t253 t254 A26 A27 t256 t257 t258 t261 t264 t265 t266 t267 t268 t269 A29 A30 zq8_1 gb177 w32 GW177 GE177 gb178 w33 GW178 GE178 NB177_178 NB178_177 hnb34 hnc34 hcz35_0 hcz35_1 hcz35_2 hcz35_3 hcz35_4 hcz35_5 hcz35_6 hcz35_7 hcz35_8 hcz35_9 hfz35_0 hfz35_1 hfz35_2 hfz35_3 hfz35_4 hfz35_5 hfz35_6 hfz35_7 hfz35_8 hfz35_9 w36 hcz37_0 hcz37_1 hcz37_2 hcz37_3 hcz37_4 hcz37_5 hcz37_6 hcz37_7 hcz37_8 hcz37_9 hfz37_0 hfz37_1 hfz37_2 hfz37_3 hfz37_4 hfz37_5 hfz37_6 hfz37_7 hfz37_8 hfz37_9 w38 H w39 zq8_2 w40 zq8_3 w41 Ao42 co42 Ao43 co43 Ao44 co44 Ao45 co45 zq8_4 w46 zq8_5 hcz47_0 hcz47_1 hcz47_2 hcz47_3 hcz47_4 hcz47_5 hcz47_6 hcz47_7 hcz47_8 hcz47_9 hfz47_0 hfz47_1 hfz47_2 hfz47_3 hfz47_4 hfz47_5 hfz47_6 hfz47_7 hfz47_8 hfz47_9 w48 gb224 w49 GW224 GE224 NB177_224 NB224_177 NB178_224 NB224_178 hnb50 hnc50 hnb51 hnc51 hcz52_0 hcz52_1 hcz52_2 hcz52_3 hcz52_4 hcz52_5 hcz52_6 hcz52_7 hcz52_8 hcz52_9 hfz52_0 hfz52_1 hfz52_2 hfz52_3 hfz52_4 hfz52_5 hfz52_6 hfz52_7 hfz52_8 hfz52_9 Ao53 co53 Ao54 co54 hcz55_0 hcz55_1 hcz55_2 hcz55_3 hcz55_4 hcz55_5 hcz55_6 hcz55_7 hcz55_8 hcz55_9 hfz55_0 hfz55_1 hfz55_2 hfz55_3 hfz55_4 hfz55_5 hfz55_6 hfz55_7 hfz55_8 hfz55_9 w56 gb239 w57 GW239 GE239 NB177_239 NB239_177 NB178_239 NB239_178 NB224_239 NB239_224 hnb58 hnc58 hnb59 hnc59 hnb60 hnc60 hcz61_0 hcz61_1 hcz61_2 hcz61_3 hcz61_4 hcz61_5 hcz61_6 hcz61_7 hcz61_8 hcz61_9 hfz61_0 hfz61_1 hfz61_2 hfz61_3 hfz61_4 hfz61_5 hfz61_6 hfz61_7 hfz61_8 hfz61_9 Ao62 co62 Ao63 co63 hcz64_0 hcz64_1 hcz64_2 hcz64_3 hcz64_4 hcz64_5 hcz64_6 hcz64_7 hcz64_8 hcz64_9 hfz64_0 hfz64_1 hfz64_2 hfz64_3 hfz64_4 hfz64_5 hfz64_6 hfz64_7 hfz64_8 hfz64_9 w65 zq8_6 zq8_7 zq8_8 zq8_9 w66 zq8_10 w67 Ao68 co68 Ao69 co69 zq8_11 w70 HO185 HO188 HO199 HO202 HO214 HO217 HO229 HO232 HO245 HO248 BK177 BK178 BK224 BK239 HB hHeld
       try go_wp2
       have n0_ := Aside0.mk (Kd.R_drew HO185.out)
       have n1_ := Aside0.mk (Kd.R_drew HO188.out)
       have n2_ := Aside0.mk (Kd.R_drew HO199.out)
       have n3_ := Aside0.mk (Kd.R_drew HO202.out)
       have n4_ := Aside0.mk (Kd.R_drew HO214.out)
       have n5_ := Aside0.mk (Kd.R_drew HO217.out)
       have n6_ := Aside0.mk (Kd.R_drew HO229.out)
       have n7_ := Aside0.mk (Kd.R_drew HO232.out)
       have n8_ := Aside0.mk (Kd.R_drew HO245.out)
       have n9_ := Aside0.mk (Kd.R_drew HO248.out)
       have n10_ := Aside0.mk (blk_drew BK177.out)
       have n11_ := Aside0.mk (blk_drew BK178.out)
       have n12_ := Aside0.mk (blk_drew BK224.out)
       have n13_ := Aside0.mk (blk_drew BK239.out)
       have n14_ := Aside0.mk (below_drew1 HB.out)
       clear HO185
       clear HO188
       clear HO199
       clear HO202
       clear HO214
       clear HO217
       clear HO229
       clear HO232
       clear HO245
       clear HO248
       clear BK177
       clear BK178
       clear BK224
       clear BK239
       clear HB
       have HO185 := n0_
       have HO188 := n1_
       have HO199 := n2_
       have HO202 := n3_
       have HO214 := n4_
       have HO217 := n5_
       have HO229 := n6_
       have HO232 := n7_
       have HO245 := n8_
       have HO248 := n9_
       have BK177 := n10_
       have BK178 := n11_
       have BK224 := n12_
       have BK239 := n13_
       have HB := n14_
       clear n0_ n1_ n2_ n3_ n4_ n5_ n6_ n7_ n8_ n9_ n10_ n11_ n12_ n13_ n14_
       rename_i zp9_1 zp9_2 zp9_3 zp9_4; revert k a0_0 a0_1 A0_2 c0_2 l0_2 A0_3 c0_3 l0_3 a0_4 a0_5 a0_6 a0_7 a0_8 a0_9 a1_0 a1_1 A1_2 c1_2 l1_2 A1_3 c1_3 l1_3 a1_4 a1_5 a1_6 a1_7 a1_8 a1_9 w hu82 hu87 HR0_2 HC0_2 HR0_3 HC0_3 HR1_2 HC1_2 HR1_3 HC1_3 t179 A3 c4b0 t180 A10 c11b0 t181 t182 t183 t186 t189 t190 t191 t192 t193 t194 A19 t195 t196 t197 t200 t203 t204 t205 t206 t207 t208 A20 t209 A21 t210 t211 t212 t215 t218 t219 t220 t221 t222 t223 A22 t225 t226 t227 t230 t233 t234 t235 t236 t237 t238 A23 t240 A24 c25b0 c25b1 c25b2 t241 t242 t243 t246 t249 t250 t251 t252 t253 t254 A26 A27 t256 t257 t258 t261 t264 t265 t266 t267 t268 t269 A29 A30 zq8_1 gb177 w32 GW177 GE177 gb178 w33 GW178 GE178 NB177_178 NB178_177 hnb34 hnc34 hcz35_0 hcz35_1 hcz35_2 hcz35_3 hcz35_4 hcz35_5 hcz35_6 hcz35_7 hcz35_8 hcz35_9 hfz35_0 hfz35_1 hfz35_2 hfz35_3 hfz35_4 hfz35_5 hfz35_6 hfz35_7 hfz35_8 hfz35_9 w36 hcz37_0 hcz37_1 hcz37_2 hcz37_3 hcz37_4 hcz37_5 hcz37_6 hcz37_7 hcz37_8 hcz37_9 hfz37_0 hfz37_1 hfz37_2 hfz37_3 hfz37_4 hfz37_5 hfz37_6 hfz37_7 hfz37_8 hfz37_9 w38 H w39 zq8_2 w40 zq8_3 w41 Ao42 co42 Ao43 co43 Ao44 co44 Ao45 co45 zq8_4 w46 zq8_5 hcz47_0 hcz47_1 hcz47_2 hcz47_3 hcz47_4 hcz47_5 hcz47_6 hcz47_7 hcz47_8 hcz47_9 hfz47_0 hfz47_1 hfz47_2 hfz47_3 hfz47_4 hfz47_5 hfz47_6 hfz47_7 hfz47_8 hfz47_9 w48 gb224 w49 GW224 GE224 NB177_224 NB224_177 NB178_224 NB224_178 hnb50 hnc50 hnb51 hnc51 hcz52_0 hcz52_1 hcz52_2 hcz52_3 hcz52_4 hcz52_5 hcz52_6 hcz52_7 hcz52_8 hcz52_9 hfz52_0 hfz52_1 hfz52_2 hfz52_3 hfz52_4 hfz52_5 hfz52_6 hfz52_7 hfz52_8 hfz52_9 Ao53 co53 Ao54 co54 hcz55_0 hcz55_1 hcz55_2 hcz55_3 hcz55_4 hcz55_5 hcz55_6 hcz55_7 hcz55_8 hcz55_9 hfz55_0 hfz55_1 hfz55_2 hfz55_3 hfz55_4 hfz55_5 hfz55_6 hfz55_7 hfz55_8 hfz55_9 w56 gb239 w57 GW239 GE239 NB177_239 NB239_177 NB178_239 NB239_178 NB224_239 NB239_224 hnb58 hnc58 hnb59 hnc59 hnb60 hnc60 hcz61_0 hcz61_1 hcz61_2 hcz61_3 hcz61_4 hcz61_5 hcz61_6 hcz61_7 hcz61_8 hcz61_9 hfz61_0 hfz61_1 hfz61_2 hfz61_3 hfz61_4 hfz61_5 hfz61_6 hfz61_7 hfz61_8 hfz61_9 Ao62 co62 Ao63 co63 hcz64_0 hcz64_1 hcz64_2 hcz64_3 hcz64_4 hcz64_5 hcz64_6 hcz64_7 hcz64_8 hcz64_9 hfz64_0 hfz64_1 hfz64_2 hfz64_3 hfz64_4 hfz64_5 hfz64_6 hfz64_7 hfz64_8 hfz64_9 w65 w66 zq8_10 w67 Ao68 co68 Ao69 co69 zq8_11 w70 hHeld zp9_1 zp9_2 zp9_3 zp9_4 HO185 HO188 HO199 HO202 HO214 HO217 HO229 HO232 HO245 HO248 BK177 BK178 BK224 BK239 HB; exact hm_.out
set_option maxHeartbeats 8000000 in
set_option maxRecDepth 100000 in
noncomputable def FnExactSameState_cut10 : PSigma (fun M_ : Prop => CutW M_ → FnExactSameState_cut9.1) := by
      apply PSigma.mk
      case snd =>
       intro hm_
       intro k a0_0 a0_1 A0_2 c0_2 l0_2 A0_3 c0_3 l0_3 a0_4 a0_5 a0_6 a0_7 a0_8 a0_9 a1_0 a1_1 A1_2 c1_2 l1_2 A1_3 c1_3 l1_3 a1_4 a1_5 a1_6 a1_7 a1_8 a1_9 w hu82 hu87 HR0_2 HC0_2 HR0_3 HC0_3 HR1_2 HC1_2 HR1_3 HC1_3 t179 A3 c4b0 t180 A10 c11b0 t181 t182 t183 t186 t189 t190 t191 t192 t193 t194 A19 t195 t196 t197 t200 t203 t204 t205 t206 t207 t208 A20 t209 A21 t210 t211 t212 t215 t218 t219 t220 t221 t222 t223 A22 t225 t226 t227 t230 t233 t234 t235 t236 t237 t238 A23 t240 A24 c25b0 c25b1 c25b2 t241 t242 t243 t246 t249 t250 t251 t252 t253 t254 A26 A27 t256 t257 t258 t261 t264 t265 t266 t267 t268 t269 A29 A30 zq9_1 gb177 w32 GW177 GE177 gb178 w33 GW178 GE178 NB177_178 NB178_177 hnb34 hnc34 hcz35_0 hcz35_1 hcz35_2 hcz35_3 hcz35_4 hcz35_5 hcz35_6 hcz35_7 hcz35_8 hcz35_9 hfz35_0 hfz35_1 hfz35_2 hfz35_3 hfz35_4 hfz35_5 hfz35_6 hfz35_7 hfz35_8 hfz35_9 w36 hcz37_0 hcz37_1 hcz37_2 hcz37_3 hcz37_4 hcz37_5 hcz37_6 hcz37_7 hcz37_8 hcz37_9 hfz37_0 hfz37_1 hfz37_2 hfz37_3 hfz37_4 hfz37_5 hfz37_6 hfz37_7 hfz37_8 hfz37_9 w38 H w39 zq9_2 w40 zq9_3 w41 Ao42 co42 Ao43 co43 Ao44 co44 Ao45 co45 zq9_4 w46 zq9_5 hcz47_0 hcz47_1 hcz47_2 hcz47_3 hcz47_4 hcz47_5 hcz47_6 hcz47_7 hcz47_8 hcz47_9 hfz47_0 hfz47_1 hfz47_2 hfz47_3 hfz47_4 hfz47_5 hfz47_6 hfz47_7 hfz47_8 hfz47_9 w48 gb224 w49 GW224 GE224 NB177_224 NB224_177 NB178_224 NB224_178 hnb50 hnc50 hnb51 hnc51 hcz52_0 hcz52_1 hcz52_2 hcz52_3 hcz52_4 hcz52_5 hcz52_6 hcz52_7 hcz52_8 hcz52_9 hfz52_0 hfz52_1 hfz52_2 hfz52_3 hfz52_4 hfz52_5 hfz52_6 hfz52_7 hfz52_8 hfz52_9 Ao53 co53 Ao54 co54 hcz55_0 hcz55_1 hcz55_2 hcz55_3 hcz55_4 hcz55_5 hcz55_6 hcz55_7 hcz55_8 hcz55_9 hfz55_0 hfz55_1 hfz55_2 hfz55_3 hfz55_4 hfz55_5 hfz55_6 hfz55_7 hfz55_8 hfz55_9 w56 gb239 w57 GW239 GE239 NB177_239 NB239_177 NB178_239 NB239_178 NB224_239 NB239_224 hnb58 hnc58 hnb59 hnc59 hnb60 hnc60 hcz61_0 hcz61_1 hcz61_2 hcz61_3 hcz61_4 hcz61_5 hcz61_6 hcz61_7 hcz61_8 hcz61_9 hfz61_0 hfz61_1 hfz61_2 hfz61_3 hfz61_4 hfz61_5 hfz61_6 hfz61_7 hfz61_8 hfz61_9 Ao62 co62 Ao63 co63 hcz64_0 hcz64_1 hcz64_2 hcz64_3 hcz64_4 hcz64_5 hcz64_6 hcz64_7 hcz64_8 hcz64_9 hfz64_0 hfz64_1 hfz64_2 hfz64_3 hfz64_4 hfz64_5 hfz64_6 hfz64_7 hfz64_8 hfz64_9 w65 w66 zq9_6 w67 Ao68 co68 Ao69 co69 zq9_7 w70 hHeld zq9_8 zq9_9 zq9_10 zq9_11 HO185 HO188 HO199 HO202 HO214 HO217 HO229 HO232 HO245 HO248 BK177 BK178 BK224 BK239 HB
       refine start_ (n:=5) (S:=fun w' => w'.cell? ⟨gb239,0,none⟩ = some (.int .i64 t225) ∧ w'.cell? ⟨gb239,1,none⟩ = some (.int .i64 t226) ∧ w'.cell? ⟨gb239,2,none⟩ = some (.slice Ao62 t227.length co62) ∧ w'.cell? ⟨gb239,3,none⟩ = some (.slice Ao63 t230.length co63) ∧ w'.cell? ⟨gb239,4,none⟩ = some (.int .i64 t233) ∧ w'.cell? ⟨gb239,5,none⟩ = some (.int .i64 t234) ∧ w'.cell? ⟨gb239,6,none⟩ = some (.int .i64 t235) ∧ w'.cell? ⟨gb239,7,none⟩ = some (.int .i64 t236) ∧ w'.cell? ⟨gb239,8,none⟩ = some (.int .i64 t237) ∧ w'.cell? ⟨gb239,9,none⟩ = some (.int .i64 t238) ∧ w'.cell? ⟨gb178,0,none⟩ = some (.int .i64 a1_0) ∧ w'.cell? ⟨gb178,1,none⟩ = some (.int .i64 a1_1) ∧ w'.cell? ⟨gb178,2,none⟩ = some (.slice A1_2 l1_2.length c1_2) ∧ w'.cell? ⟨gb178,3,none⟩ = some (.slice A1_3 l1_3.length c1_3) ∧ w'.cell? ⟨gb178,4,none⟩ = some (.int .i64 a1_4) ∧ w'.cell? ⟨gb178,5,none⟩ = some (.int .i64 a1_5) ∧ w'.cell? ⟨gb178,6,none⟩ = some (.int .i64 a1_6) ∧ w'.cell? ⟨gb178,7,none⟩ = some (.int .i64 a1_7) ∧ w'.cell? ⟨gb178,8,none⟩ = some (.int .i64 a1_8) ∧ w'.cell? ⟨gb178,9,none⟩ = some (.int .i64 a1_9)) (ds := []) (bm 5 0) (by kernel_rfl) rfl rfl ⟨(blk_cell BK239.out 0).trans rfl,(blk_cell BK239.out 1).trans rfl,(blk_cell BK239.out 2).trans rfl,(blk_cell BK239.out 3).trans rfl,(blk_cell BK239.out 4).trans rfl,(blk_cell BK239.out 5).trans rfl,(blk_cell BK239.out 6).trans rfl,(blk_cell BK239.out 7).trans rfl,(blk_cell BK239.out 8).trans rfl,(blk_cell BK239.out 9).trans rfl,(blk_cell BK178.out 0).trans rfl,(blk_cell BK178.out 1).trans rfl,(blk_cell BK178.out 2).trans rfl,(blk_cell BK178.out 3).trans rfl,(blk_cell BK178.out 4).trans rfl,(blk_cell BK178.out 5).trans rfl,(blk_cell BK178.out 6).trans rfl,(blk_cell BK178.out 7).trans rfl,(blk_cell BK178.out 8).trans rfl,(blk_cell BK178.out 9).trans rfl⟩ (fun hHeld => ?_)
       generalize w70.drew = w71 at HO185 HO188 HO199 HO202 HO214 HO217 HO229 HO232 HO245 HO248 BK177 BK178 BK224 BK239 HB hHeld ⊢
       refine take_ (i:=0) (N:=some 40) (v:=?_) (a':=?_) (bm 5 1) rfl rfl (by kernel_rfl) (fun _ _ _ h => h) (Or.inl ⟨by rfl,?_⟩) hHeld ?_ ?_
       rotate_left
       ·rintro w' ⟨s0,s1,s2,s3,s4,s5,s6,s7,s8,s9,s10,s11,s12,s13,s14,s15,s16,s17,s18,s19⟩
        go_simp
        with_reducible rfl
       rotate_left
       ·simp only [Act.put,setIfInBounds_toArray,set_cons_zero,set_cons_succ,i64_w,i32_w]
        rfl
       refine take_ (i:=1) (N:=some 41) (v:=?_) (a':=?_) (bm 5 3) rfl rfl (by kernel_rfl) (fun _ _ _ h => h) (Or.inl ⟨by rfl,?_⟩) hHeld ?_ ?_
       rotate_left
       ·rintro w' ⟨s0,s1,s2,s3,s4,s5,s6,s7,s8,s9,s10,s11,s12,s13,s14,s15,s16,s17,s18,s19⟩
        go_simp
        with_reducible rfl
       rotate_left
       ·simp only [Act.put,setIfInBounds_toArray,set_cons_zero,set_cons_succ,i64_w,i32_w]
        rfl
       refine one_ (i:=2) (N:=some 42) (bm 5 7) rfl rfl (by kernel_rfl) (by decide) (fun K hK => ?_)
       refine goes_ Try.func43 (by kernel_rfl) rfl #[.agg #[.int .i64 a1_0,.int .i64 a1_1,.slice A1_2 l1_2.length c1_2,.slice A1_3 l1_3.length c1_3,.int .i64 a1_4,.int .i64 a1_5,.int .i64 a1_6,.int .i64 a1_7,.int .i64 a1_8,.int .i64 a1_9]] (by rfl) rfl rfl mA ?_
       with_reducible refine (laws_toState.calls k a1_0 a1_1 _ _ l1_2 _ _ l1_3 a1_4 a1_5 a1_6 a1_7 a1_8 a1_9 t256 t257 t258 t261 t264 t265 t266 t267 t268 t269 _ ?side1 ?side2 ?side3 ?side4 A29.out).mono ?_
       (case side1 => repeat (first | exact (Kd.C_below HR1_2.out HB.out) | (with_reducible refine Kd.C_alloc ?_ _) | (with_reducible refine Kd.C_drewN ?_ _) | (with_reducible refine Kd.C_drew ?_)))
       (case side2 => exact HC1_2.out)
       (case side3 => repeat (first | exact (Kd.C_below HR1_3.out HB.out) | (with_reducible refine Kd.C_alloc ?_ _) | (with_reducible refine Kd.C_drewN ?_ _) | (with_reducible refine Kd.C_drew ?_)))
       (case side4 => exact HC1_3.out)
       rintro e w72 ⟨v259,v262,rfl,ho0,ho1,hb⟩
       refine ⟨_,rfl,?_⟩
       have n0_ := Aside0.mk (Kd.R_elder' (rA HO185.out) (Kd.R_base ho0) hb)
       have n1_ := Aside0.mk (Kd.R_elder' (rA HO188.out) (Kd.R_base ho1) hb)
       have n2_ := Aside0.mk (Kd.R_elder' (rA HO199.out) (Kd.R_base ho0) hb)
       have n3_ := Aside0.mk (Kd.R_elder' (rA HO202.out) (Kd.R_base ho1) hb)
       have n4_ := Aside0.mk (Kd.R_elder' (rA HO214.out) (Kd.R_base ho0) hb)
       have n5_ := Aside0.mk (Kd.R_elder' (rA HO217.out) (Kd.R_base ho1) hb)
       have n6_ := Aside0.mk (Kd.R_elder' (rA HO229.out) (Kd.R_base ho0) hb)
       have n7_ := Aside0.mk (Kd.R_elder' (rA HO232.out) (Kd.R_base ho1) hb)
       have n8_ := Aside0.mk (Kd.R_elder' (rA HO245.out) (Kd.R_base ho0) hb)
       have n9_ := Aside0.mk (Kd.R_elder' (rA HO248.out) (Kd.R_base ho1) hb)
       have n10_ := Aside0.mk (Kd.R_lower (Kd.R_new' (Kd.R_new' (Kd.R_new' (Kd.R_new' (Kd.R_new' ho0 (Kd.R_lt (rA HO185.out))) (Kd.R_lt (rA HO199.out))) (Kd.R_lt (rA HO214.out))) (Kd.R_lt (rA HO229.out))) (Kd.R_lt (rA HO245.out))) (below_size bA))
       have n11_ := Aside0.mk (Kd.R_lower (Kd.R_new' (Kd.R_new' (Kd.R_new' (Kd.R_new' (Kd.R_new' ho1 (Kd.R_lt (rA HO188.out))) (Kd.R_lt (rA HO202.out))) (Kd.R_lt (rA HO217.out))) (Kd.R_lt (rA HO232.out))) (Kd.R_lt (rA HO248.out))) (below_size bA))
       have n12_ := Aside0.mk (blk_below (g:=gb177) (o:=.cells #[.int .i64 a0_0,.int .i64 a0_1,.slice A0_2 l0_2.length c0_2,.slice A0_3 l0_3.length c0_3,.int .i64 a0_4,.int .i64 a0_5,.int .i64 a0_6,.int .i64 a0_7,.int .i64 a0_8,.int .i64 a0_9] 82 (0,0)) (kA BK177.out) hb)
       have n13_ := Aside0.mk (blk_below (g:=gb178) (o:=.cells #[.int .i64 a1_0,.int .i64 a1_1,.slice A1_2 l1_2.length c1_2,.slice A1_3 l1_3.length c1_3,.int .i64 a1_4,.int .i64 a1_5,.int .i64 a1_6,.int .i64 a1_7,.int .i64 a1_8,.int .i64 a1_9] 82 (0,0)) (kA BK178.out) hb)
       have n14_ := Aside0.mk (blk_below (g:=gb224) (o:=.cells #[.int .i64 t210,.int .i64 t211,.slice Ao53 t212.length co53,.slice Ao54 t215.length co54,.int .i64 t218,.int .i64 t219,.int .i64 t220,.int .i64 t221,.int .i64 t222,.int .i64 t223] 87 (0,0)) (kA BK224.out) hb)
       have n15_ := Aside0.mk (blk_below (g:=gb239) (o:=.cells #[.int .i64 t225,.int .i64 t226,.slice Ao62 t227.length co62,.slice Ao63 t230.length co63,.int .i64 t233,.int .i64 t234,.int .i64 t235,.int .i64 t236,.int .i64 t237,.int .i64 t238] 87 (0,0)) (kA BK239.out) hb)
       have n16_ := Aside0.mk (below_step bA hb)
       clear HO185
       clear HO188
       clear HO199
       clear HO202
       clear HO214
       clear HO217
       clear HO229
       clear HO232
       clear HO245
       clear HO248
       clear BK177
       clear BK178
       clear BK224
       clear BK239
       clear HB
       have HO185 := n0_
       have HO188 := n1_
       have HO199 := n2_
       have HO202 := n3_
       have HO214 := n4_
       have HO217 := n5_
       have HO229 := n6_
       have HO232 := n7_
       have HO245 := n8_
       have HO248 := n9_
       have HO260 := n10_
       have HO263 := n11_
       have BK177 := n12_
       have BK178 := n13_
       have BK224 := n14_
       have BK239 := n15_
       have HB := n16_
       clear n0_ n1_ n2_ n3_ n4_ n5_ n6_ n7_ n8_ n9_ n10_ n11_ n12_ n13_ n14_ n15_ n16_
       (try clear hb)
       (try clear hb2)
       (try clear hk)
       (try clear hi)
       (try clear ho0)
       (try clear ho1)
       obtain ⟨Ao73,co73,eo73⟩ := Kd.R_slice HO260.out
       (first | subst eo73 | (injection eo73 with f1_ f2_ f3_; have f4_ := f1_.symm; have f5_ := f3_.symm; clear f1_ f2_ f3_; subst f4_; subst f5_))
       obtain ⟨Ao74,co74,eo74⟩ := Kd.R_slice HO263.out
       (first | subst eo74 | (injection eo74 with f1_ f2_ f3_; have f4_ := f1_.symm; have f5_ := f3_.symm; clear f1_ f2_ f3_; subst f4_; subst f5_))
       refine hK.out _ _ ⟨(blk_cell BK239.out 0).trans rfl,(blk_cell BK239.out 1).trans rfl,(blk_cell BK239.out 2).trans rfl,(blk_cell BK239.out 3).trans rfl,(blk_cell BK239.out 4).trans rfl,(blk_cell BK239.out 5).trans rfl,(blk_cell BK239.out 6).trans rfl,(blk_cell BK239.out 7).trans rfl,(blk_cell BK239.out 8).trans rfl,(blk_cell BK239.out 9).trans rfl,(blk_cell BK178.out 0).trans rfl,(blk_cell BK178.out 1).trans rfl,(blk_cell BK178.out 2).trans rfl,(blk_cell BK178.out 3).trans rfl,(blk_cell BK178.out 4).trans rfl,(blk_cell BK178.out 5).trans rfl,(blk_cell BK178.out 6).trans rfl,(blk_cell BK178.out 7).trans rfl,(blk_cell BK178.out 8).trans rfl,(blk_cell BK178.out 9).trans rfl⟩ (fun hHeld => ?_)
       clear hK K
       refine norm_ (a':=?_) ?_ ?_
       rotate_left
       ·show Act.put _ (some 42) _ = _
        simp only [Act.put,setIfInBounds_toArray,set_cons_zero,set_cons_succ,i64_w,i32_w]
        rfl
       refine one_ (i:=3) (N:=some 43) (bm 5 15) rfl rfl (by kernel_rfl) (by decide) (fun K hK => ?_)
       refine goes_ Try.func45 (by kernel_rfl) rfl #[.agg #[.int .i64 t225,.int .i64 t226,.slice Ao62 t227.length co62,.slice Ao63 t230.length co63,.int .i64 t233,.int .i64 t234,.int .i64 t235,.int .i64 t236,.int .i64 t237,.int .i64 t238],.agg #[.int .i64 t256,.int .i64 t257,.slice Ao73 t258.length co73,.slice Ao74 t261.length co74,.int .i64 t264,.int .i64 t265,.int .i64 t266,.int .i64 t267,.int .i64 t268,.int .i64 t269]] (by rfl) rfl rfl mA ?_
       with_reducible refine (laws_eqState.calls k t225 t226 _ _ t227 _ _ t230 t233 t234 t235 t236 t237 t238 t256 t257 _ _ t258 _ _ t261 t264 t265 t266 t267 t268 t269 true _ ?side1 ?side2 ?side3 ?side4 ?side5 ?side6 ?side7 ?side8 A30.out).mono ?_
       (case side1 => repeat (first | exact (Kd.R_reads' HO229.out).2.2 | (with_reducible refine Kd.C_alloc ?_ _) | (with_reducible refine Kd.C_drewN ?_ _) | (with_reducible refine Kd.C_drew ?_)))
       (case side2 => exact (Kd.R_reads' HO229.out).2.1)
       (case side3 => repeat (first | exact (Kd.R_reads' HO232.out).2.2 | (with_reducible refine Kd.C_alloc ?_ _) | (with_reducible refine Kd.C_drewN ?_ _) | (with_reducible refine Kd.C_drew ?_)))
       (case side4 => exact (Kd.R_reads' HO232.out).2.1)
       (case side5 => repeat (first | exact (Kd.R_reads' HO260.out).2.2 | (with_reducible refine Kd.C_alloc ?_ _) | (with_reducible refine Kd.C_drewN ?_ _) | (with_reducible refine Kd.C_drew ?_)))
       (case side6 => exact (Kd.R_reads' HO260.out).2.1)
       (case side7 => repeat (first | exact (Kd.R_reads' HO263.out).2.2 | (with_reducible refine Kd.C_alloc ?_ _) | (with_reducible refine Kd.C_drewN ?_ _) | (with_reducible refine Kd.C_drew ?_)))
       (case side8 => exact (Kd.R_reads' HO263.out).2.1)
       rintro e w75 ⟨rfl,hb⟩
       refine ⟨_,rfl,?_⟩
       have n0_ := Aside0.mk (Kd.R_below (rA HO185.out) hb)
       have n1_ := Aside0.mk (Kd.R_below (rA HO188.out) hb)
       have n2_ := Aside0.mk (Kd.R_below (rA HO199.out) hb)
       have n3_ := Aside0.mk (Kd.R_below (rA HO202.out) hb)
       have n4_ := Aside0.mk (Kd.R_below (rA HO214.out) hb)
       have n5_ := Aside0.mk (Kd.R_below (rA HO217.out) hb)
       have n6_ := Aside0.mk (Kd.R_below (rA HO229.out) hb)
       have n7_ := Aside0.mk (Kd.R_below (rA HO232.out) hb)
       have n8_ := Aside0.mk (Kd.R_below (rA HO245.out) hb)
       have n9_ := Aside0.mk (Kd.R_below (rA HO248.out) hb)
       have n10_ := Aside0.mk (Kd.R_below (rA HO260.out) hb)
       have n11_ := Aside0.mk (Kd.R_below (rA HO263.out) hb)
       have n12_ := Aside0.mk (blk_below (g:=gb177) (o:=.cells #[.int .i64 a0_0,.int .i64 a0_1,.slice A0_2 l0_2.length c0_2,.slice A0_3 l0_3.length c0_3,.int .i64 a0_4,.int .i64 a0_5,.int .i64 a0_6,.int .i64 a0_7,.int .i64 a0_8,.int .i64 a0_9] 82 (0,0)) (kA BK177.out) hb)
       have n13_ := Aside0.mk (blk_below (g:=gb178) (o:=.cells #[.int .i64 a1_0,.int .i64 a1_1,.slice A1_2 l1_2.length c1_2,.slice A1_3 l1_3.length c1_3,.int .i64 a1_4,.int .i64 a1_5,.int .i64 a1_6,.int .i64 a1_7,.int .i64 a1_8,.int .i64 a1_9] 82 (0,0)) (kA BK178.out) hb)
       have n14_ := Aside0.mk (blk_below (g:=gb224) (o:=.cells #[.int .i64 t210,.int .i64 t211,.slice Ao53 t212.length co53,.slice Ao54 t215.length co54,.int .i64 t218,.int .i64 t219,.int .i64 t220,.int .i64 t221,.int .i64 t222,.int .i64 t223] 87 (0,0)) (kA BK224.out) hb)
       have n15_ := Aside0.mk (blk_below (g:=gb239) (o:=.cells #[.int .i64 t225,.int .i64 t226,.slice Ao62 t227.length co62,.slice Ao63 t230.length co63,.int .i64 t233,.int .i64 t234,.int .i64 t235,.int .i64 t236,.int .i64 t237,.int .i64 t238] 87 (0,0)) (kA BK239.out) hb)
       have n16_ := Aside0.mk (below_step bA hb)
       clear HO185
       clear HO188
       clear HO199
       clear HO202
       clear HO214
       clear HO217
       clear HO229
       clear HO232
       clear HO245
       clear HO248
       clear HO260
       clear HO263
       clear BK177
       clear BK178
       clear BK224
       clear BK239
       clear HB
       have HO185 := n0_
       have HO188 := n1_
       have HO199 := n2_
       have HO202 := n3_
       have HO214 := n4_
       have HO217 := n5_
       have HO229 := n6_
       have HO232 := n7_
       have HO245 := n8_
       have HO248 := n9_
       have HO260 := n10_
       have HO263 := n11_
       have BK177 := n12_
       have BK178 := n13_
       have BK224 := n14_
       have BK239 := n15_
       have HB := n16_
       clear n0_ n1_ n2_ n3_ n4_ n5_ n6_ n7_ n8_ n9_ n10_ n11_ n12_ n13_ n14_ n15_ n16_
       (try clear hb)
       (try clear hb2)
       (try clear hk)
       (try clear hi)
       refine hK.out _ _ ⟨(blk_cell BK239.out 0).trans rfl,(blk_cell BK239.out 1).trans rfl,(blk_cell BK239.out 2).trans rfl,(blk_cell BK239.out 3).trans rfl,(blk_cell BK239.out 4).trans rfl,(blk_cell BK239.out 5).trans rfl,(blk_cell BK239.out 6).trans rfl,(blk_cell BK239.out 7).trans rfl,(blk_cell BK239.out 8).trans rfl,(blk_cell BK239.out 9).trans rfl,(blk_cell BK178.out 0).trans rfl,(blk_cell BK178.out 1).trans rfl,(blk_cell BK178.out 2).trans rfl,(blk_cell BK178.out 3).trans rfl,(blk_cell BK178.out 4).trans rfl,(blk_cell BK178.out 5).trans rfl,(blk_cell BK178.out 6).trans rfl,(blk_cell BK178.out 7).trans rfl,(blk_cell BK178.out 8).trans rfl,(blk_cell BK178.out 9).trans rfl⟩ (fun hHeld => ?_)
       clear hK K
       refine norm_ (a':=?_) ?_ ?_
       rotate_left
       ·show Act.put _ (some 43) _ = _
        simp only [Act.put,setIfInBounds_toArray,set_cons_zero,set_cons_succ,i64_w,i32_w]
        rfl
       refine pure_ (i:=4) (N:=some 44) (v:=?_) (a':=?_) (bm 5 31) rfl rfl (by kernel_rfl) (fun _ _ _ h => h) (Or.inl ⟨by rfl,?_⟩) ?_ ?_
       rotate_left
       ·intro w'
        go_simp
        with_reducible rfl
       rotate_left
       ·simp only [Act.put,setIfInBounds_toArray,set_cons_zero,set_cons_succ,i64_w,i32_w]
        rfl
       refine done_ (by kernel_rfl) ?_
       rename_i zp10_1 zp10_2 zp10_3; revert k a0_0 a0_1 A0_2 c0_2 l0_2 A0_3 c0_3 l0_3 a0_4 a0_5 a0_6 a0_7 a0_8 a0_9 a1_0 a1_1 A1_2 c1_2 l1_2 A1_3 c1_3 l1_3 a1_4 a1_5 a1_6 a1_7 a1_8 a1_9 w hu82 hu87 HR0_2 HC0_2 HR0_3 HC0_3 HR1_2 HC1_2 HR1_3 HC1_3 t179 A3 c4b0 t180 A10 c11b0 t181 t182 t183 t186 t189 t190 t191 t192 t193 t194 A19 t195 t196 t197 t200 t203 t204 t205 t206 t207 t208 A20 t209 A21 t210 t211 t212 t215 t218 t219 t220 t221 t222 t223 A22 t225 t226 t227 t230 t233 t234 t235 t236 t237 t238 A23 t240 A24 c25b0 c25b1 c25b2 t241 t242 t243 t246 t249 t250 t251 t252 t253 t254 A26 A27 t256 t257 t258 t261 t264 t265 t266 t267 t268 t269 A29 A30 zq9_1 gb177 w32 GW177 GE177 gb178 w33 GW178 GE178 NB177_178 NB178_177 hnb34 hnc34 hcz35_0 hcz35_1 hcz35_2 hcz35_3 hcz35_4 hcz35_5 hcz35_6 hcz35_7 hcz35_8 hcz35_9 hfz35_0 hfz35_1 hfz35_2 hfz35_3 hfz35_4 hfz35_5 hfz35_6 hfz35_7 hfz35_8 hfz35_9 w36 hcz37_0 hcz37_1 hcz37_2 hcz37_3 hcz37_4 hcz37_5 hcz37_6 hcz37_7 hcz37_8 hcz37_9 hfz37_0 hfz37_1 hfz37_2 hfz37_3 hfz37_4 hfz37_5 hfz37_6 hfz37_7 hfz37_8 hfz37_9 w38 H w39 zq9_2 w40 zq9_3 w41 Ao42 co42 Ao43 co43 Ao44 co44 Ao45 co45 zq9_4 w46 zq9_5 hcz47_0 hcz47_1 hcz47_2 hcz47_3 hcz47_4 hcz47_5 hcz47_6 hcz47_7 hcz47_8 hcz47_9 hfz47_0 hfz47_1 hfz47_2 hfz47_3 hfz47_4 hfz47_5 hfz47_6 hfz47_7 hfz47_8 hfz47_9 w48 gb224 w49 GW224 GE224 NB177_224 NB224_177 NB178_224 NB224_178 hnb50 hnc50 hnb51 hnc51 hcz52_0 hcz52_1 hcz52_2 hcz52_3 hcz52_4 hcz52_5 hcz52_6 hcz52_7 hcz52_8 hcz52_9 hfz52_0 hfz52_1 hfz52_2 hfz52_3 hfz52_4 hfz52_5 hfz52_6 hfz52_7 hfz52_8 hfz52_9 Ao53 co53 Ao54 co54 hcz55_0 hcz55_1 hcz55_2 hcz55_3 hcz55_4 hcz55_5 hcz55_6 hcz55_7 hcz55_8 hcz55_9 hfz55_0 hfz55_1 hfz55_2 hfz55_3 hfz55_4 hfz55_5 hfz55_6 hfz55_7 hfz55_8 hfz55_9 w56 gb239 w57 GW239 GE239 NB177_239 NB239_177 NB178_239 NB239_178 NB224_239 NB239_224 hnb58 hnc58 hnb59 hnc59 hnb60 hnc60 hcz61_0 hcz61_1 hcz61_2 hcz61_3 hcz61_4 hcz61_5 hcz61_6 hcz61_7 hcz61_8 hcz61_9 hfz61_0 hfz61_1 hfz61_2 hfz61_3 hfz61_4 hfz61_5 hfz61_6 hfz61_7 hfz61_8 hfz61_9 Ao62 co62 Ao63 co63 hcz64_0 hcz64_1 hcz64_2 hcz64_3 hcz64_4 hcz64_5 hcz64_6 hcz64_7 hcz64_8 hcz64_9 hfz64_0 hfz64_1 hfz64_2 hfz64_3 hfz64_4 hfz64_5 hfz64_6 hfz64_7 hfz64_8 hfz64_9 w65 w66 zq9_6 w67 Ao68 co68 Ao69 co69 zq9_7 w70 zp10_1 zq9_8 zq9_9 zq9_10 zq9_11 w71 zp10_2 w72 Ao73 co73 Ao74 co74 zp10_3 w75 HO185 HO188 HO199 HO202 HO214 HO217 HO229 HO232 HO245 HO248 HO260 HO263 BK177 BK178 BK224 BK239 HB hHeld; exact hm_.out
set_option maxHeartbeats 8000000 in
set_option maxRecDepth 100000 in
theorem FnExactSameState_cut11 : FnExactSameState_cut10.1 := by
      intro k a0_0 a0_1 A0_2 c0_2 l0_2 A0_3 c0_3 l0_3 a0_4 a0_5 a0_6 a0_7 a0_8 a0_9 a1_0 a1_1 A1_2 c1_2 l1_2 A1_3 c1_3 l1_3 a1_4 a1_5 a1_6 a1_7 a1_8 a1_9 w hu82 hu87 HR0_2 HC0_2 HR0_3 HC0_3 HR1_2 HC1_2 HR1_3 HC1_3 t179 A3 c4b0 t180 A10 c11b0 t181 t182 t183 t186 t189 t190 t191 t192 t193 t194 A19 t195 t196 t197 t200 t203 t204 t205 t206 t207 t208 A20 t209 A21 t210 t211 t212 t215 t218 t219 t220 t221 t222 t223 A22 t225 t226 t227 t230 t233 t234 t235 t236 t237 t238 A23 t240 A24 c25b0 c25b1 c25b2 t241 t242 t243 t246 t249 t250 t251 t252 t253 t254 A26 A27 t256 t257 t258 t261 t264 t265 t266 t267 t268 t269 A29 A30 zq10_1 gb177 w32 GW177 GE177 gb178 w33 GW178 GE178 NB177_178 NB178_177 hnb34 hnc34 hcz35_0 hcz35_1 hcz35_2 hcz35_3 hcz35_4 hcz35_5 hcz35_6 hcz35_7 hcz35_8 hcz35_9 hfz35_0 hfz35_1 hfz35_2 hfz35_3 hfz35_4 hfz35_5 hfz35_6 hfz35_7 hfz35_8 hfz35_9 w36 hcz37_0 hcz37_1 hcz37_2 hcz37_3 hcz37_4 hcz37_5 hcz37_6 hcz37_7 hcz37_8 hcz37_9 hfz37_0 hfz37_1 hfz37_2 hfz37_3 hfz37_4 hfz37_5 hfz37_6 hfz37_7 hfz37_8 hfz37_9 w38 H w39 zq10_2 w40 zq10_3 w41 Ao42 co42 Ao43 co43 Ao44 co44 Ao45 co45 zq10_4 w46 zq10_5 hcz47_0 hcz47_1 hcz47_2 hcz47_3 hcz47_4 hcz47_5 hcz47_6 hcz47_7 hcz47_8 hcz47_9 hfz47_0 hfz47_1 hfz47_2 hfz47_3 hfz47_4 hfz47_5 hfz47_6 hfz47_7 hfz47_8 hfz47_9 w48 gb224 w49 GW224 GE224 NB177_224 NB224_177 NB178_224 NB224_178 hnb50 hnc50 hnb51 hnc51 hcz52_0 hcz52_1 hcz52_2 hcz52_3 hcz52_4 hcz52_5 hcz52_6 hcz52_7 hcz52_8 hcz52_9 hfz52_0 hfz52_1 hfz52_2 hfz52_3 hfz52_4 hfz52_5 hfz52_6 hfz52_7 hfz52_8 hfz52_9 Ao53 co53 Ao54 co54 hcz55_0 hcz55_1 hcz55_2 hcz55_3 hcz55_4 hcz55_5 hcz55_6 hcz55_7 hcz55_8 hcz55_9 hfz55_0 hfz55_1 hfz55_2 hfz55_3 hfz55_4 hfz55_5 hfz55_6 hfz55_7 hfz55_8 hfz55_9 w56 gb239 w57 GW239 GE239 NB177_239 NB239_177 NB178_239 NB239_178 NB224_239 NB239_224 hnb58 hnc58 hnb59 hnc59 hnb60 hnc60 hcz61_0 hcz61_1 hcz61_2 hcz61_3 hcz61_4 hcz61_5 hcz61_6 hcz61_7 hcz61_8 hcz61_9 hfz61_0 hfz61_1 hfz61_2 hfz61_3 hfz61_4 hfz61_5 hfz61_6 hfz61_7 hfz61_8 hfz61_9 Ao62 co62 Ao63 co63 hcz64_0 hcz64_1 hcz64_2 hcz64_3 hcz64_4 hcz64_5 hcz64_6 hcz64_7 hcz64_8 hcz64_9 hfz64_0 hfz64_1 hfz64_2 hfz64_3 hfz64_4 hfz64_5 hfz64_6 hfz64_7 hfz64_8 hfz64_9 w65 w66 zq10_6 w67 Ao68 co68 Ao69 co69 zq10_7 w70 zq10_8 zq10_9 zq10_10 zq10_11 zq10_12 w71 zq10_13 w72 Ao73 co73 Ao74 co74 zq10_14 w75 HO185 HO188 HO199 HO202 HO214 HO217 HO229 HO232 HO245 HO248 HO260 HO263 BK177 BK178 BK224 BK239 HB hHeld
      try go_wp2
      go_ret
      exact ⟨by first | rfl | (simp [errW_none,errW_some] <;> rfl) | (simp [*,errW_none,errW_some] <;> rfl),bA⟩
theorem laws_FnExactSameState.calls (k : Nat) (a0_0 : Int) (a0_1 : Int) (A0_2 : Option Addr) (c0_2 : Nat) (l0_2 : List (S149)) (A0_3 : Option Addr) (c0_3 : Nat) (l0_3 : List (S152)) (a0_4 : Int) (a0_5 : Int) (a0_6 : Int) (a0_7 : Int) (a0_8 : Int) (a0_9 : Int) (a1_0 : Int) (a1_1 : Int) (A1_2 : Option Addr) (c1_2 : Nat) (l1_2 : List (S149)) (A1_3 : Option Addr) (c1_3 : Nat) (l1_3 : List (S152)) (a1_4 : Int) (a1_5 : Int) (a1_6 : Int) (a1_7 : Int) (a1_8 : Int) (a1_9 : Int) (r : Bool) (w : World) (hr0_2 : Kd.C k149 w A0_2 l0_2.length l0_2) (hc0_2 : l0_2.length ≤ c0_2) (hr0_3 : Kd.C k152 w A0_3 l0_3.length l0_3) (hc0_3 : l0_3.length ≤ c0_3) (hr1_2 : Kd.C k149 w A1_2 l1_2.length l1_2) (hc1_2 : l1_2.length ≤ c1_2) (hr1_3 : Kd.C k152 w A1_3 l1_3.length l1_3) (hc1_3 : l1_3.length ≤ c1_3) (h : laws_FnExactSameState.f k a0_0 a0_1 l0_2 l0_3 a0_4 a0_5 a0_6 a0_7 a0_8 a0_9 a1_0 a1_1 l1_2 l1_3 a1_4 a1_5 a1_6 a1_7 a1_8 a1_9 = some r) : Calls Try.prog 8 #[.agg #[.int .i64 a0_0,.int .i64 a0_1,.slice A0_2 l0_2.length c0_2,.slice A0_3 l0_3.length c0_3,.int .i64 a0_4,.int .i64 a0_5,.int .i64 a0_6,.int .i64 a0_7,.int .i64 a0_8,.int .i64 a0_9],.agg #[.int .i64 a1_0,.int .i64 a1_1,.slice A1_2 l1_2.length c1_2,.slice A1_3 l1_3.length c1_3,.int .i64 a1_4,.int .i64 a1_5,.int .i64 a1_6,.int .i64 a1_7,.int .i64 a1_8,.int .i64 a1_9]] w fun e w' => e = .returned (.bool r) ∧ Below w.heap.size w w' := (FnExactSameState_cut1.2 ⟨(FnExactSameState_cut2.2 ⟨(FnExactSameState_cut3.2 ⟨(FnExactSameState_cut4.2 ⟨(FnExactSameState_cut5.2 ⟨(FnExactSameState_cut6.2 ⟨(FnExactSameState_cut7.2 ⟨(FnExactSameState_cut8.2 ⟨(FnExactSameState_cut9.2 ⟨(FnExactSameState_cut10.2 ⟨FnExactSameState_cut11⟩)⟩)⟩)⟩)⟩)⟩)⟩)⟩)⟩)⟩) k a0_0 a0_1 A0_2 c0_2 l0_2 A0_3 c0_3 l0_3 a0_4 a0_5 a0_6 a0_7 a0_8 a0_9 a1_0 a1_1 A1_2 c1_2 l1_2 A1_3 c1_3 l1_3 a1_4 a1_5 a1_6 a1_7 a1_8 a1_9 r w hr0_2 hc0_2 hr0_3 hc0_3 hr1_2 hc1_2 hr1_3 hc1_3 h

end Go.Proofs.Yteiolcfgaklafaa.XFnExactSameState

