-- Printed by this session's own program wip/tools/xprint.py, which widens the kit's print. Not trusted: Lean checks it.
import Derived.Test.YtleifhnoaaphmaaDoorXFnExactAskReaderx0
import Derived.Test.YtleifhnoaaphmaaDoorXFnExactAskReaderx1
import Derived.Test.YtleifhnoaaphmaaDoorXFnExactAskReaderx7
namespace Go.Proofs.YtleifhnoaaphmaaDoor.XFnExactAskReader
open Go.RowKit Go.Proofs.YtleifhnoaaphmaaDoorW.PrintWords Go.Proofs.YtleifhnoaaphmaaDoorW.PrintLast Go.Proofs.YtleifhnoaaphmaaDoorW.PrintMore
attribute [local go_sem] max2_int min2_int max_two min_two max_three min_three max_four min_four   -- for this text's walks alone
set_option linter.unusedVariables false
set_option linter.unusedSimpArgs false

attribute [local go_sem high] eqA49
/-! ### impl_entryOK: function 57 -/
def impl_entryOK.f (k : Nat) (a0_0 : Int) (a0_1 : Int) (a0_2 : Int) (a0_3 : ByteArray) : Option (Bool) := (impl_readDataKey.f k a0_3).bind fun bt267 => (if bt267.2.2.2 = true then (if bt267.1 = a0_0 then ((impl_isRange.f a0_1 a0_2).bind fun t271 => (if t271 = true then (some (decide (a0_1 < a0_2))) else (some false))) else (some false)) else (some false))
theorem impl_entryOK.mono : ∀ a0 a1 a2 a3 k,LeO (impl_entryOK.f k a0 a1 a2 a3) (impl_entryOK.f (k + 1) a0 a1 a2 a3) := by
 intro a0 a1 a2 a3 k
 unfold impl_entryOK.f
 repeat' first
   | (with_reducible exact impl_readDataKey.mono _ _)
   | (with_reducible exact LeO.refl _)
   | (with_reducible exact LeO.none _)
   | (with_reducible refine LeO.ite ?_ ?_)
   | (with_reducible refine LeO.bind ?_ (fun _ => ?_))
   | exact impl_readDataKey.mono _ _
   | exact LeO.none _
   | refine LeO.ite ?_ ?_
   | refine LeO.bind ?_ (fun _ => ?_)
set_option maxHeartbeats 8000000 in
set_option maxRecDepth 100000 in
theorem impl_entryOK.calls (k : Nat) (a0_0 : Int) (a0_1 : Int) (a0_2 : Int) (a0_3 : ByteArray) (r : Bool) (w : World) (hV : Vars w) (h : impl_entryOK.f k a0_0 a0_1 a0_2 a0_3 = some r) :
  Calls Tryd.prog 57 #[.agg #[.int .i64 a0_0,.int .i64 a0_1,.int .i64 a0_2,.string a0_3]] w fun e w' => e = .returned (.bool r) ∧ Below w.heap.size w w' := by
 have hu84 := Tryd.underlying84
 have HV := Aside0.mk hV
 clear hV
 have HB := Aside0.mk (Below.refl w.heap.size w)
 have H : ((impl_readDataKey.f k a0_3).bind fun bt267 => (if bt267.2.2.2 = true then (if bt267.1 = a0_0 then ((impl_isRange.f a0_1 a0_2).bind fun t271 => (if t271 = true then (some (decide (a0_1 < a0_2))) else (some false))) else (some false)) else (some false))) = some r := h
 clear h
 replace H := Option.bind_eq_some_iff.mp H
 obtain ⟨⟨t267,t268,t269,t270⟩,A20,H⟩ := H
 try dsimp only at H
 have A2 := Aside0.mk A20
 clear A20
 by_cases c3 : t270 = true
 ·subst c3
  rw [if_pos rfl] at H
  by_cases c4 : t267 = a0_0
  ·rw [if_pos c4] at H
   have c4b0 : (t267 == a0_0) = true := beq_iff_eq.mpr c4
   have c4b1 : (t267 != a0_0) = false := bne_eq_false_iff_eq.mpr c4
   clear c4
   replace H := Option.bind_eq_some_iff.mp H
   obtain ⟨t271,A50,H⟩ := H
   try dsimp only at H
   have A5 := Aside0.mk A50
   clear A50
   by_cases c6 : t271 = true
   ·subst c6
    rw [if_pos rfl] at H
    obtain rfl := Option.some.inj H
    go_enter Tryd.func57,Tryd.ntmps57
    go_wp2_with (first | ((with_reducible refine gate_dst (N:=1) rfl ?_); refine box_event ?hg (N:=1) ?hd (cs := #[.int .i64 a0_0,.int .i64 a0_1,.int .i64 a0_2,.string a0_3]) (t:=84) ?hr ?_; (case hd => rfl); (case hg => rfl); (case hr => first | (go_simp; done) | (go_simp; rfl)); intro gb266 hg w7 hbox hb; have n0_ := Aside0.mk (below_step bA hb); have n1_ := Aside0.mk (hbox); have n2_ := Aside0.mk ((by rw [hg]; exact (below_size bA) : w.heap.size ≤ gb266)); have n3_ := Aside0.mk ((by rw [hg]; exact (below_size bA) : w.heap.size ≤ gb266)); clear HB; have HB := n0_; have BK266 := n1_; have GW266 := n2_; have GE266 := n3_; clear n0_ n1_ n2_ n3_; clear hb hbox hg; have hcz8_0 : w7.cell? ⟨gb266,0,none⟩ = some (.int .i64 a0_0) := (blk_cell BK266.out 0).trans rfl; have hcz8_1 : w7.cell? ⟨gb266,1,none⟩ = some (.int .i64 a0_1) := (blk_cell BK266.out 1).trans rfl; have hcz8_2 : w7.cell? ⟨gb266,2,none⟩ = some (.int .i64 a0_2) := (blk_cell BK266.out 2).trans rfl; have hcz8_3 : w7.cell? ⟨gb266,3,none⟩ = some (.string a0_3) := (blk_cell BK266.out 3).trans rfl; have hfz8_0 := blk_frozen BK266.out 0; have hfz8_1 := blk_frozen BK266.out 1; have hfz8_2 := blk_frozen BK266.out 2; have hfz8_3 := blk_frozen BK266.out 3) | ((with_reducible refine gate_callee (f:=82) rfl ?_); refine goesL_ (some 10) rfl rfl Tryd.func82 (by kernel_rfl) rfl #[.string a0_3] rfl mA ?_; (with_reducible refine (impl_readDataKey.calls k a0_3 t267 t268 t269 true _ ?side1 A2.out).mono ?_); (case side1 => exact HV.out.below bA); rintro e w9 ⟨rfl,hb⟩; refine ⟨_,rfl,?_⟩; have n0_ := Aside0.mk (blk_below (g:=gb266) (o:=.cells #[.int .i64 a0_0,.int .i64 a0_1,.int .i64 a0_2,.string a0_3] 84 (0,0)) (kA BK266.out) hb); have n1_ := Aside0.mk (below_step bA hb); clear BK266; clear HB; have BK266 := n0_; have HB := n1_; clear n0_ n1_; (try clear hb); (try clear hb2); (try clear hk); (try clear hi); have hcz10_0 : w9.cell? ⟨gb266,0,none⟩ = some (.int .i64 a0_0) := (blk_cell BK266.out 0).trans rfl; have hcz10_1 : w9.cell? ⟨gb266,1,none⟩ = some (.int .i64 a0_1) := (blk_cell BK266.out 1).trans rfl; have hcz10_2 : w9.cell? ⟨gb266,2,none⟩ = some (.int .i64 a0_2) := (blk_cell BK266.out 2).trans rfl; have hcz10_3 : w9.cell? ⟨gb266,3,none⟩ = some (.string a0_3) := (blk_cell BK266.out 3).trans rfl; have hfz10_0 := blk_frozen BK266.out 0; have hfz10_1 := blk_frozen BK266.out 1; have hfz10_2 := blk_frozen BK266.out 2; have hfz10_3 := blk_frozen BK266.out 3) | (go_at_call 65; (with_reducible refine (impl_isRange.calls a0_1 a0_2 true _ A5.out).mono ?_); rintro e w' ⟨rfl,⟨nd,rfl⟩⟩))
    go_ret
    exact ⟨by first | rfl | (simp [errW_none,errW_some] <;> rfl) | (simp [*,errW_none,errW_some] <;> rfl),bA⟩
   ·replace c6 := Bool.eq_false_iff.mpr c6
    subst c6
    rw [if_neg (show ¬ (false = true) by decide)] at H
    obtain rfl := Option.some.inj H
    go_enter Tryd.func57,Tryd.ntmps57
    go_wp2_with (first | ((with_reducible refine gate_dst (N:=1) rfl ?_); refine box_event ?hg (N:=1) ?hd (cs := #[.int .i64 a0_0,.int .i64 a0_1,.int .i64 a0_2,.string a0_3]) (t:=84) ?hr ?_; (case hd => rfl); (case hg => rfl); (case hr => first | (go_simp; done) | (go_simp; rfl)); intro gb266 hg w11 hbox hb; have n0_ := Aside0.mk (below_step bA hb); have n1_ := Aside0.mk (hbox); have n2_ := Aside0.mk ((by rw [hg]; exact (below_size bA) : w.heap.size ≤ gb266)); have n3_ := Aside0.mk ((by rw [hg]; exact (below_size bA) : w.heap.size ≤ gb266)); clear HB; have HB := n0_; have BK266 := n1_; have GW266 := n2_; have GE266 := n3_; clear n0_ n1_ n2_ n3_; clear hb hbox hg; have hcz12_0 : w11.cell? ⟨gb266,0,none⟩ = some (.int .i64 a0_0) := (blk_cell BK266.out 0).trans rfl; have hcz12_1 : w11.cell? ⟨gb266,1,none⟩ = some (.int .i64 a0_1) := (blk_cell BK266.out 1).trans rfl; have hcz12_2 : w11.cell? ⟨gb266,2,none⟩ = some (.int .i64 a0_2) := (blk_cell BK266.out 2).trans rfl; have hcz12_3 : w11.cell? ⟨gb266,3,none⟩ = some (.string a0_3) := (blk_cell BK266.out 3).trans rfl; have hfz12_0 := blk_frozen BK266.out 0; have hfz12_1 := blk_frozen BK266.out 1; have hfz12_2 := blk_frozen BK266.out 2; have hfz12_3 := blk_frozen BK266.out 3) | ((with_reducible refine gate_callee (f:=82) rfl ?_); refine goesL_ (some 10) rfl rfl Tryd.func82 (by kernel_rfl) rfl #[.string a0_3] rfl mA ?_; (with_reducible refine (impl_readDataKey.calls k a0_3 t267 t268 t269 true _ ?side1 A2.out).mono ?_); (case side1 => exact HV.out.below bA); rintro e w13 ⟨rfl,hb⟩; refine ⟨_,rfl,?_⟩; have n0_ := Aside0.mk (blk_below (g:=gb266) (o:=.cells #[.int .i64 a0_0,.int .i64 a0_1,.int .i64 a0_2,.string a0_3] 84 (0,0)) (kA BK266.out) hb); have n1_ := Aside0.mk (below_step bA hb); clear BK266; clear HB; have BK266 := n0_; have HB := n1_; clear n0_ n1_; (try clear hb); (try clear hb2); (try clear hk); (try clear hi); have hcz14_0 : w13.cell? ⟨gb266,0,none⟩ = some (.int .i64 a0_0) := (blk_cell BK266.out 0).trans rfl; have hcz14_1 : w13.cell? ⟨gb266,1,none⟩ = some (.int .i64 a0_1) := (blk_cell BK266.out 1).trans rfl; have hcz14_2 : w13.cell? ⟨gb266,2,none⟩ = some (.int .i64 a0_2) := (blk_cell BK266.out 2).trans rfl; have hcz14_3 : w13.cell? ⟨gb266,3,none⟩ = some (.string a0_3) := (blk_cell BK266.out 3).trans rfl; have hfz14_0 := blk_frozen BK266.out 0; have hfz14_1 := blk_frozen BK266.out 1; have hfz14_2 := blk_frozen BK266.out 2; have hfz14_3 := blk_frozen BK266.out 3) | (go_at_call 65; (with_reducible refine (impl_isRange.calls a0_1 a0_2 false _ A5.out).mono ?_); rintro e w' ⟨rfl,⟨nd,rfl⟩⟩))
    go_ret
    exact ⟨by first | rfl | (simp [errW_none,errW_some] <;> rfl) | (simp [*,errW_none,errW_some] <;> rfl),bA⟩
  ·rw [if_neg c4] at H
   have c4b0 : (t267 == a0_0) = false := beq_eq_false_iff_ne.mpr c4
   have c4b1 : (t267 != a0_0) = true := bne_iff_ne.mpr c4
   obtain rfl := Option.some.inj H
   go_enter Tryd.func57,Tryd.ntmps57
   go_wp2_with (first | ((with_reducible refine gate_dst (N:=1) rfl ?_); refine box_event ?hg (N:=1) ?hd (cs := #[.int .i64 a0_0,.int .i64 a0_1,.int .i64 a0_2,.string a0_3]) (t:=84) ?hr ?_; (case hd => rfl); (case hg => rfl); (case hr => first | (go_simp; done) | (go_simp; rfl)); intro gb266 hg w15 hbox hb; have n0_ := Aside0.mk (below_step bA hb); have n1_ := Aside0.mk (hbox); have n2_ := Aside0.mk ((by rw [hg]; exact (below_size bA) : w.heap.size ≤ gb266)); have n3_ := Aside0.mk ((by rw [hg]; exact (below_size bA) : w.heap.size ≤ gb266)); clear HB; have HB := n0_; have BK266 := n1_; have GW266 := n2_; have GE266 := n3_; clear n0_ n1_ n2_ n3_; clear hb hbox hg; have hcz16_0 : w15.cell? ⟨gb266,0,none⟩ = some (.int .i64 a0_0) := (blk_cell BK266.out 0).trans rfl; have hcz16_1 : w15.cell? ⟨gb266,1,none⟩ = some (.int .i64 a0_1) := (blk_cell BK266.out 1).trans rfl; have hcz16_2 : w15.cell? ⟨gb266,2,none⟩ = some (.int .i64 a0_2) := (blk_cell BK266.out 2).trans rfl; have hcz16_3 : w15.cell? ⟨gb266,3,none⟩ = some (.string a0_3) := (blk_cell BK266.out 3).trans rfl; have hfz16_0 := blk_frozen BK266.out 0; have hfz16_1 := blk_frozen BK266.out 1; have hfz16_2 := blk_frozen BK266.out 2; have hfz16_3 := blk_frozen BK266.out 3) | ((with_reducible refine gate_callee (f:=82) rfl ?_); refine goesL_ (some 10) rfl rfl Tryd.func82 (by kernel_rfl) rfl #[.string a0_3] rfl mA ?_; (with_reducible refine (impl_readDataKey.calls k a0_3 t267 t268 t269 true _ ?side1 A2.out).mono ?_); (case side1 => exact HV.out.below bA); rintro e w17 ⟨rfl,hb⟩; refine ⟨_,rfl,?_⟩; have n0_ := Aside0.mk (blk_below (g:=gb266) (o:=.cells #[.int .i64 a0_0,.int .i64 a0_1,.int .i64 a0_2,.string a0_3] 84 (0,0)) (kA BK266.out) hb); have n1_ := Aside0.mk (below_step bA hb); clear BK266; clear HB; have BK266 := n0_; have HB := n1_; clear n0_ n1_; (try clear hb); (try clear hb2); (try clear hk); (try clear hi); have hcz18_0 : w17.cell? ⟨gb266,0,none⟩ = some (.int .i64 a0_0) := (blk_cell BK266.out 0).trans rfl; have hcz18_1 : w17.cell? ⟨gb266,1,none⟩ = some (.int .i64 a0_1) := (blk_cell BK266.out 1).trans rfl; have hcz18_2 : w17.cell? ⟨gb266,2,none⟩ = some (.int .i64 a0_2) := (blk_cell BK266.out 2).trans rfl; have hcz18_3 : w17.cell? ⟨gb266,3,none⟩ = some (.string a0_3) := (blk_cell BK266.out 3).trans rfl; have hfz18_0 := blk_frozen BK266.out 0; have hfz18_1 := blk_frozen BK266.out 1; have hfz18_2 := blk_frozen BK266.out 2; have hfz18_3 := blk_frozen BK266.out 3))
   go_ret
   exact ⟨by first | rfl | (simp [errW_none,errW_some] <;> rfl) | (simp [*,errW_none,errW_some] <;> rfl),bA⟩
 ·replace c3 := Bool.eq_false_iff.mpr c3
  subst c3
  rw [if_neg (show ¬ (false = true) by decide)] at H
  obtain rfl := Option.some.inj H
  go_enter Tryd.func57,Tryd.ntmps57
  go_wp2_with (first | ((with_reducible refine gate_dst (N:=1) rfl ?_); refine box_event ?hg (N:=1) ?hd (cs := #[.int .i64 a0_0,.int .i64 a0_1,.int .i64 a0_2,.string a0_3]) (t:=84) ?hr ?_; (case hd => rfl); (case hg => rfl); (case hr => first | (go_simp; done) | (go_simp; rfl)); intro gb266 hg w19 hbox hb; have n0_ := Aside0.mk (below_step bA hb); have n1_ := Aside0.mk (hbox); have n2_ := Aside0.mk ((by rw [hg]; exact (below_size bA) : w.heap.size ≤ gb266)); have n3_ := Aside0.mk ((by rw [hg]; exact (below_size bA) : w.heap.size ≤ gb266)); clear HB; have HB := n0_; have BK266 := n1_; have GW266 := n2_; have GE266 := n3_; clear n0_ n1_ n2_ n3_; clear hb hbox hg; have hcz20_0 : w19.cell? ⟨gb266,0,none⟩ = some (.int .i64 a0_0) := (blk_cell BK266.out 0).trans rfl; have hcz20_1 : w19.cell? ⟨gb266,1,none⟩ = some (.int .i64 a0_1) := (blk_cell BK266.out 1).trans rfl; have hcz20_2 : w19.cell? ⟨gb266,2,none⟩ = some (.int .i64 a0_2) := (blk_cell BK266.out 2).trans rfl; have hcz20_3 : w19.cell? ⟨gb266,3,none⟩ = some (.string a0_3) := (blk_cell BK266.out 3).trans rfl; have hfz20_0 := blk_frozen BK266.out 0; have hfz20_1 := blk_frozen BK266.out 1; have hfz20_2 := blk_frozen BK266.out 2; have hfz20_3 := blk_frozen BK266.out 3) | ((with_reducible refine gate_callee (f:=82) rfl ?_); refine goesL_ (some 10) rfl rfl Tryd.func82 (by kernel_rfl) rfl #[.string a0_3] rfl mA ?_; (with_reducible refine (impl_readDataKey.calls k a0_3 t267 t268 t269 false _ ?side1 A2.out).mono ?_); (case side1 => exact HV.out.below bA); rintro e w21 ⟨rfl,hb⟩; refine ⟨_,rfl,?_⟩; have n0_ := Aside0.mk (blk_below (g:=gb266) (o:=.cells #[.int .i64 a0_0,.int .i64 a0_1,.int .i64 a0_2,.string a0_3] 84 (0,0)) (kA BK266.out) hb); have n1_ := Aside0.mk (below_step bA hb); clear BK266; clear HB; have BK266 := n0_; have HB := n1_; clear n0_ n1_; (try clear hb); (try clear hb2); (try clear hk); (try clear hi)))
  go_ret
  exact ⟨by first | rfl | (simp [errW_none,errW_some] <;> rfl) | (simp [*,errW_none,errW_some] <;> rfl),bA⟩

/-! ### impl_Entry_56: function 56 (by hand) -/
def idxP (p : Nat → Bool) : Nat → Nat → Int
 | 0,_ => -1
 | d + 1,i => if p i = true then (i : Int) else idxP p d (i + 1)
theorem idxP_succ (p : Nat → Bool) (d i : Nat) : idxP p (d + 1) i = if p i = true then (i : Int) else idxP p d (i + 1) := rfl
theorem idxP_some (p : Nat → Bool) : ∀ (d i : Nat),decide (0 ≤ idxP p d i) = ((List.range' i d).any p)
 | 0,i => rfl
 | d + 1,i => by
  have ih := idxP_some p d (i + 1)
  rw [List.range'_succ,List.any_cons,← ih,idxP_succ]
  cases h : p i with
  | true => rw [if_pos rfl,decide_eq_true (Int.natCast_nonneg i)]; rfl
  | false => rw [if_neg (by decide)]; rfl
def allAt (q : S84 → Bool) (l : List S84) : Bool := !((List.range' 0 l.length).any fun i => !(q (l.getD i z84)))
theorem allAt_eq (q : S84 → Bool) (l : List S84) : allAt q l = l.all q := by
 unfold allAt
 rw [Bool.eq_iff_iff,Bool.not_eq_true',List.any_eq_false,List.all_eq_true]
 constructor
 ·intro h x hx
  obtain ⟨i,hi,rfl⟩ := List.getElem_of_mem hx
  have := h i (by rw [List.mem_range'_1]; omega)
  rw [List.getD_eq_getElem?_getD,List.getElem?_eq_getElem hi] at this
  simpa using this
 ·intro h i hi
  rw [List.mem_range'_1] at hi
  have hlt : i < l.length := by omega
  have := h l[i] (List.getElem_mem hlt)
  rw [List.getD_eq_getElem?_getD,List.getElem?_eq_getElem hlt]
  simp [this]
set_option maxHeartbeats 4000000 in
set_option maxRecDepth 100000 in
theorem idx_entry (g : Nat) (lb : Array Value) (eg : ∀ args w,(callFunc g args).run Tryd.prog w = .ok (.enter g args) w) (p : Nat → Bool) (A0 : Option Addr) (c0 : Nat) (l0 : List S84) (w : World) (hr0 : Kd.C k84 w A0 l0.length l0) (hsz : l0.length ≤ 140737488351232)
  (hp : ∀ (W : World) (i : Nat),i < l0.length → Below w.heap.size w W → Calls Tryd.prog g (#[.agg #[.int .i64 (l0.getD i z84).f0,.int .i64 (l0.getD i z84).f1,.int .i64 (l0.getD i z84).f2,.string (l0.getD i z84).f3]] ++ lb) W fun e w' => e = .returned (.bool (p i)) ∧ Below w.heap.size w w') :
  Calls Tryd.prog 106 #[.slice A0 l0.length c0,.func (.func g) #[] lb] w fun e w' => e = .returned (.int .i64 (idxP p l0.length 0)) ∧ Below w.heap.size w w' := by
 have HR := Aside0.mk hr0
 have HP := Aside0.mk hp
 have S0 := Aside0.mk (Below.refl w.heap.size w)
 have u84 := Tryd.underlying84
 clear hr0 hp
 generalize hidx : idxP p l0.length 0 = idx
 have ID := Aside0.mk hidx
 clear hidx
 go_enter Tryd.func106,Tryd.ntmps106
 go_wp2
 go_loopg [5,8] l0.length (fun gg _ s8 wr => ∃ i : Nat,i ≤ l0.length ∧ l0.length - i ≤ gg ∧ s8 = .int .i64 i ∧ Aside0 (Below w.heap.size w wr) ∧ Aside0 (idxP p (l0.length - i) i = idx))
 case atStart => exact ⟨0,Nat.zero_le _,by omega,rfl,S0,ID⟩
 case round =>
  clear S0 ID
  obtain ⟨i,hi,hg,rfl,HB,I⟩ := hrel
  by_cases hlt : i < l0.length
  ·have hltz : (i : Int) < (l0.length : Int) := by omega
   have p0 : 0 ≤ (i : Int) := by omega
   obtain ⟨ad,ea,h0,h1,h2,h3⟩ := at_T84 HR.out (i : Int) p0 hltz
   cases ea
   replace h0 := (HB.out.cell (World.block_lt_of_cell? w _ h0)).trans h0
   replace h1 := (HB.out.cell (World.block_lt_of_cell? w _ h1)).trans h1
   replace h2 := (HB.out.cell (World.block_lt_of_cell? w _ h2)).trans h2
   replace h3 := (HB.out.cell (World.block_lt_of_cell? w _ h3)).trans h3
   rw [Int.toNat_natCast] at h0 h1 h2 h3
   have hcall := HP.out wr i hlt HB.out
   have hy : rd_T84 l0 (i : Int) = l0.getD i z84 := by unfold rd_T84; rw [Int.toNat_natCast]
   rw [hy] at h0 h1 h2 h3
   clear hy HP
   generalize l0.getD i z84 = y at h0 h1 h2 h3 hcall
   have hstep : idxP p (l0.length - i) i = if p i = true then (i : Int) else idxP p (l0.length - (i + 1)) (i + 1) := by
    rw [show l0.length - i = (l0.length - (i + 1)) + 1 by omega]
    rfl
   have I2 := Aside0.mk (hstep.symm.trans I.out)
   clear hstep I
   cases hq : p i with
   | true =>
    rw [hq] at hcall I2
    go_wp2_with (go_at_fn g; refine hcall.mono ?_; rintro e w' ⟨rfl,hb'⟩; have HB2 := Aside0.mk hb'; clear hb')
    go_ret
    exact ⟨by rw [← I2.out]; rfl,HB2.out⟩
   | false =>
    rw [hq] at hcall I2
    go_wp2_with (go_at_fn g; refine hcall.mono ?_; rintro e w' ⟨rfl,hb'⟩; have HB2 := Aside0.mk hb'; clear hb')
    go_roundg (l0.length - (i + 1))
    case measure => omega
    case rel => exact ⟨i + 1,by omega,Nat.le_refl _,by go_num,HB2,⟨I2.out⟩⟩
  ·obtain rfl : i = l0.length := by omega
   have hltz : ¬ (l0.length : Int) < (l0.length : Int) := by omega
   have I2 : Aside0 (idx = -1) := ⟨by rw [← I.out,Nat.sub_self]; rfl⟩
   clear I
   go_wp2
   go_ret
   exact ⟨by rw [I2.out]; rfl,HB.out⟩
set_option maxHeartbeats 2000000 in
set_option maxRecDepth 100000 in
theorem cont_entry (g : Nat) (lb : Array Value) (eg : ∀ args w,(callFunc g args).run Tryd.prog w = .ok (.enter g args) w) (p : Nat → Bool) (A0 : Option Addr) (c0 : Nat) (l0 : List S84) (w : World) (hr0 : Kd.C k84 w A0 l0.length l0) (hsz : l0.length ≤ 140737488351232)
  (hp : ∀ (W : World) (i : Nat),i < l0.length → Below w.heap.size w W → Calls Tryd.prog g (#[.agg #[.int .i64 (l0.getD i z84).f0,.int .i64 (l0.getD i z84).f1,.int .i64 (l0.getD i z84).f2,.string (l0.getD i z84).f3]] ++ lb) W fun e w' => e = .returned (.bool (p i)) ∧ Below w.heap.size w w') :
  Calls Tryd.prog 89 #[.slice A0 l0.length c0,.func (.func g) #[] lb] w fun e w' => e = .returned (.bool ((List.range' 0 l0.length).any p)) ∧ Below w.heap.size w w' := by
 rw [← idxP_some p l0.length 0]
 have hcon := Aside0.mk (idx_entry g lb eg p A0 c0 l0 w hr0 hsz hp)
 clear hr0 hp
 generalize idxP p l0.length 0 = n at hcon ⊢
 generalize l0.length = m at hcon ⊢
 go_enter Tryd.func89,Tryd.ntmps89
 go_wp2_with (go_at_call 106; refine hcon.out.mono ?_; rintro e w' ⟨rfl,hb⟩; have HB := Aside0.mk hb; clear hb)
 go_ret
 exact ⟨rfl,HB.out⟩
set_option maxHeartbeats 2000000 in
set_option maxRecDepth 100000 in
theorem all_one (h : Nat) (lb : Array Value) (eh : ∀ args w,(callFunc h args).run Tryd.prog w = .ok (.enter h args) w) (b : Bool) (x0 x1 x2 : Int) (x3 : ByteArray) (w W : World) (B : Nat) (hB : w.heap.size ≤ B) (hb0 : Below w.heap.size w W) (hc : W.cell? ⟨B,0,none⟩ = some (.func (.func h) #[] lb))
  (hh : ∀ (W' : World),Below w.heap.size w W' → Calls Tryd.prog h (#[.agg #[.int .i64 x0,.int .i64 x1,.int .i64 x2,.string x3]] ++ lb) W' fun e w' => e = .returned (.bool b) ∧ Below W'.heap.size W' w') :
  Calls Tryd.prog 90 (#[.agg #[.int .i64 x0,.int .i64 x1,.int .i64 x2,.string x3]] ++ #[.pointer (some ⟨B,0,none⟩)]) W fun e w' => e = .returned (.bool (!b)) ∧ Below W.heap.size W w' := by
 have HB := Aside0.mk (Below.refl W.heap.size W)
 have HW := Aside0.mk hb0
 have HH := Aside0.mk hh
 have u84 := Tryd.underlying84
 clear hh hb0
 show Calls Tryd.prog 90 #[.agg #[.int .i64 x0,.int .i64 x1,.int .i64 x2,.string x3],.pointer (some ⟨B,0,none⟩)] W _
 go_enter Tryd.func90,Tryd.ntmps90
 go_wp2_with (first
  | ((with_reducible refine gate_dst (N:=2) rfl ?_); refine box_event ?hg (N:=2) ?hd (cs := #[.int .i64 x0,.int .i64 x1,.int .i64 x2,.string x3]) (t:=84) ?hr ?_; (case hd => rfl); (case hg => rfl); (case hr => first | (go_simp; done) | (go_simp; rfl)); intro gb hg w7 hbox hb; have HB1 := Aside0.mk (below_step HB.out hb); have HW1 := Aside0.mk (below_step HW.out hb); replace hc := (hb.cell (World.block_lt_of_cell? _ _ hc)).trans hc; have hcE : w7.cell? ⟨gb,0,none⟩ = some (.int .i64 x0) := (blk_cell hbox 0).trans rfl; have hcF : w7.cell? ⟨gb,1,none⟩ = some (.int .i64 x1) := (blk_cell hbox 1).trans rfl; have hcG : w7.cell? ⟨gb,2,none⟩ = some (.int .i64 x2) := (blk_cell hbox 2).trans rfl; have hcH : w7.cell? ⟨gb,3,none⟩ = some (.string x3) := (blk_cell hbox 3).trans rfl; clear hb hbox hg)
  | (go_at_fn h; refine (HH.out _ (by repeat (first | (with_reducible exact HW1.out) | apply below_alloc | apply pw_below_drewN | apply below_drew1))).mono ?_; rintro e w9 ⟨rfl,hb⟩; have HB2 := Aside0.mk (Below.trans (by repeat (first | (with_reducible exact HB1.out) | apply below_alloc | apply pw_below_drewN | apply below_drew1)) (hb.mono (by exact HB1.out.size)) : Below W.heap.size W w9); clear hb))
 go_ret
 exact ⟨rfl,HB2.out⟩
set_option maxHeartbeats 2000000 in
set_option maxRecDepth 100000 in
theorem all_entry (h : Nat) (lb : Array Value) (eh : ∀ args w,(callFunc h args).run Tryd.prog w = .ok (.enter h args) w) (q : S84 → Bool) (A0 : Option Addr) (c0 : Nat) (l0 : List S84) (w : World) (hr0 : Kd.C k84 w A0 l0.length l0) (hsz : l0.length ≤ 140737488351232)
  (hq : ∀ (W : World) (i : Nat),i < l0.length → Below w.heap.size w W → Calls Tryd.prog h (#[.agg #[.int .i64 (l0.getD i z84).f0,.int .i64 (l0.getD i z84).f1,.int .i64 (l0.getD i z84).f2,.string (l0.getD i z84).f3]] ++ lb) W fun e w' => e = .returned (.bool (q (l0.getD i z84))) ∧ Below W.heap.size W w') :
  Calls Tryd.prog 56 #[.slice A0 l0.length c0,.func (.func h) #[] lb] w fun e w' => e = .returned (.bool (l0.all q)) ∧ Below w.heap.size w w' := by
 rw [← allAt_eq]
 unfold allAt
 have eg : ∀ args w,(callFunc 90 args).run Tryd.prog w = .ok (.enter 90 args) w := enters_of Tryd.func90 (by kernel_rfl) rfl
 have hal : Below w.heap.size w (w.alloc (.cells #[.func (.func h) #[] lb] 95)) := (Below.refl _ w).alloc (Nat.le_refl _) _
 have hcon := Aside0.mk (cont_entry 90 #[.pointer (some ⟨w.heap.size,0,none⟩)] eg (fun i => !(q (l0.getD i z84))) A0 c0 l0 (w.alloc (.cells #[.func (.func h) #[] lb] 95)) (Kd.C_below hr0 hal) hsz (fun W i hi hb => by
  have hsz1 : (w.alloc (.cells #[.func (.func h) #[] lb] 95)).heap.size = w.heap.size + 1 := by simp
  have hW : Below w.heap.size w W := hal.trans (hb.mono (by omega))
  refine (all_one h lb eh (q (l0.getD i z84)) _ _ _ _ w W w.heap.size (Nat.le_refl _) hW ((hb.cell (p:=⟨w.heap.size,0,none⟩) (by simp)).trans (by simp)) (fun W' hW' => hq W' i hi hW')).mono ?_
  rintro e w' ⟨he,hb'⟩
  exact ⟨he,hb.trans (hb'.mono hb.size)⟩))
 clear hr0 hq
 generalize ((List.range' 0 l0.length).any fun i => !(q (l0.getD i z84))) = a at hcon ⊢
 generalize l0.length = n at hcon ⊢
 have HAL := Aside0.mk hal
 clear hal
 go_enter Tryd.func56,Tryd.ntmps56
 go_wp2_with (go_at_call 89; refine hcon.out.mono ?_; rintro e w' ⟨rfl,hb⟩; have HB2 := Aside0.mk hb; clear hb)
 go_ret
 exact ⟨rfl,HAL.out.trans (HB2.out.mono HAL.out.size)⟩
def okE (k : Nat) (x : S84) : Option Bool := impl_entryOK.f k x.f0 x.f1 x.f2 x.f3
set_option maxHeartbeats 2000000 in
set_option maxRecDepth 100000 in
theorem okR_one (k : Nat) (x0 x1 x2 : Int) (x3 : ByteArray) (t : Int) (b c : Bool) (W : World) (rb : Nat) (hV : Vars W) (hc : W.cell? ⟨rb,2,none⟩ = some (.int .i64 t)) (h : impl_entryOK.f k x0 x1 x2 x3 = some b) (hbc : (b && decide (x0 = t)) = c) :
  Calls Tryd.prog 68 (#[.agg #[.int .i64 x0,.int .i64 x1,.int .i64 x2,.string x3]] ++ #[.pointer (some ⟨rb,0,none⟩)]) W fun e w' => e = .returned (.bool c) ∧ Below W.heap.size W w' := by
 have HB := Aside0.mk (Below.refl W.heap.size W)
 have HV := Aside0.mk hV
 have A2 := Aside0.mk h
 have hu84 := Tryd.underlying84
 have hu60 := Tryd.underlying60
 clear hV h
 show Calls Tryd.prog 68 #[.agg #[.int .i64 x0,.int .i64 x1,.int .i64 x2,.string x3],.pointer (some ⟨rb,0,none⟩)] W _
 have key : ∀ (d : Bool),(b = true → (x0 == t) = d) → c = (b && d) → Calls Tryd.prog 68 #[.agg #[.int .i64 x0,.int .i64 x1,.int .i64 x2,.string x3],.pointer (some ⟨rb,0,none⟩)] W fun e w' => e = .returned (.bool c) ∧ Below W.heap.size W w' := by
  intro d hd hcd
  clear hbc
  cases b with
  | true =>
   have hd := hd rfl
   obtain rfl : c = d := by simpa using hcd
   clear hcd
   go_enter Tryd.func68,Tryd.ntmps68
   go_wp2_with (first
    | ((with_reducible refine gate_dst (N:=2) rfl ?_); refine box_event ?hg (N:=2) ?hd (cs := #[.int .i64 x0,.int .i64 x1,.int .i64 x2,.string x3]) (t:=84) ?hr ?_; (case hd => rfl); (case hg => rfl); (case hr => first | (go_simp; done) | (go_simp; rfl)); intro gb hg w7 hbox hb; have HB1 := Aside0.mk (below_step HB.out hb); replace hc := (hb.cell (World.block_lt_of_cell? _ _ hc)).trans hc; have hcE : w7.cell? ⟨gb,0,none⟩ = some (.int .i64 x0) := (blk_cell hbox 0).trans rfl; have hcF : w7.cell? ⟨gb,1,none⟩ = some (.int .i64 x1) := (blk_cell hbox 1).trans rfl; have hcG : w7.cell? ⟨gb,2,none⟩ = some (.int .i64 x2) := (blk_cell hbox 2).trans rfl; have hcH : w7.cell? ⟨gb,3,none⟩ = some (.string x3) := (blk_cell hbox 3).trans rfl; clear hb hbox hg)
    | (go_at_call 57; refine (impl_entryOK.calls k x0 x1 x2 x3 true _ (HV.out.below (by repeat (first | (with_reducible exact HB1.out) | apply below_alloc | apply pw_below_drewN | apply below_drew1))) A2.out).mono ?_; rintro e w9 ⟨rfl,hb⟩; have HB2 := Aside0.mk (Below.trans (by repeat (first | (with_reducible exact HB1.out) | apply below_alloc | apply pw_below_drewN | apply below_drew1)) (hb.mono (by exact HB1.out.size)) : Below W.heap.size W w9); replace hc := (hb.cell (World.block_lt_of_cell? _ _ hc)).trans hc; replace hcE := (hb.cell (World.block_lt_of_cell? _ _ hcE)).trans hcE; clear hb))
   go_ret
   exact ⟨by simp [hd],HB2.out⟩
  | false =>
   obtain rfl : c = false := by simpa using hcd
   clear hcd hd
   go_enter Tryd.func68,Tryd.ntmps68
   go_wp2_with (first
    | ((with_reducible refine gate_dst (N:=2) rfl ?_); refine box_event ?hg (N:=2) ?hd (cs := #[.int .i64 x0,.int .i64 x1,.int .i64 x2,.string x3]) (t:=84) ?hr ?_; (case hd => rfl); (case hg => rfl); (case hr => first | (go_simp; done) | (go_simp; rfl)); intro gb hg w7 hbox hb; have HB1 := Aside0.mk (below_step HB.out hb); replace hc := (hb.cell (World.block_lt_of_cell? _ _ hc)).trans hc; have hcE : w7.cell? ⟨gb,0,none⟩ = some (.int .i64 x0) := (blk_cell hbox 0).trans rfl; have hcF : w7.cell? ⟨gb,1,none⟩ = some (.int .i64 x1) := (blk_cell hbox 1).trans rfl; have hcG : w7.cell? ⟨gb,2,none⟩ = some (.int .i64 x2) := (blk_cell hbox 2).trans rfl; have hcH : w7.cell? ⟨gb,3,none⟩ = some (.string x3) := (blk_cell hbox 3).trans rfl; clear hb hbox hg)
    | (go_at_call 57; refine (impl_entryOK.calls k x0 x1 x2 x3 false _ (HV.out.below (by repeat (first | (with_reducible exact HB1.out) | apply below_alloc | apply pw_below_drewN | apply below_drew1))) A2.out).mono ?_; rintro e w9 ⟨rfl,hb⟩; have HB2 := Aside0.mk (Below.trans (by repeat (first | (with_reducible exact HB1.out) | apply below_alloc | apply pw_below_drewN | apply below_drew1)) (hb.mono (by exact HB1.out.size)) : Below W.heap.size W w9); clear hb))
   go_ret
   exact ⟨rfl,HB2.out⟩
 exact key (decide (x0 = t)) (fun _ => by rw [Bool.eq_iff_iff,beq_iff_eq,decide_eq_true_eq]) hbc.symm
def impl_Entry_56.f (k : Nat) (l0 : List S84) (t : Int) : Option Bool := if (l0.all fun x => (okE k x).isSome) = true ∧ l0.length ≤ 140737488351232 then some (l0.all fun x => (okE k x == some true) && decide (x.f0 = t)) else none
theorem impl_Entry_56.mono : ∀ l0 t k,LeO (impl_Entry_56.f k l0 t) (impl_Entry_56.f (k + 1) l0 t) := by
 intro l0 t k r h
 unfold impl_Entry_56.f at h ⊢
 split at h
 ·rename_i hh
  obtain ⟨h1,h2⟩ := hh
  have hm : ∀ x ∈ l0,okE (k + 1) x = okE k x := fun x hx => by
   have := List.all_eq_true.1 h1 x hx
   obtain ⟨b,hb⟩ := Option.isSome_iff_exists.1 this
   rw [hb]
   exact impl_entryOK.mono _ _ _ _ k b hb
  have e1 : (l0.all fun x => (okE (k + 1) x).isSome) = true := by
   rw [List.all_eq_true]
   intro x hx
   rw [hm x hx]
   exact List.all_eq_true.1 h1 x hx
  have e2 : (l0.all fun x => (okE (k + 1) x == some true) && decide (x.f0 = t)) = l0.all fun x => (okE k x == some true) && decide (x.f0 = t) := by
   rw [Bool.eq_iff_iff,List.all_eq_true,List.all_eq_true]
   exact ⟨fun h x hx => by rw [← hm x hx]; exact h x hx,fun h x hx => by rw [hm x hx]; exact h x hx⟩
  rw [if_pos ⟨e1,h2⟩,e2]
  exact h
 ·cases h
set_option maxHeartbeats 2000000 in
theorem impl_Entry_56.calls (k : Nat) (A0 : Option Addr) (c0 : Nat) (l0 : List S84) (t : Int) (rb : Nat) (r : Bool) (w : World) (hcell : w.cell? ⟨rb,2,none⟩ = some (.int .i64 t)) (hV : Vars w) (hr0 : Kd.C k84 w A0 l0.length l0) (hc0 : l0.length ≤ c0) (h : impl_Entry_56.f k l0 t = some r) :
  Calls Tryd.prog 56 #[.slice A0 l0.length c0,.func (.func 68) #[] #[.pointer (some ⟨rb,0,none⟩)]] w fun e w' => e = .returned (.bool r) ∧ Below w.heap.size w w' := by
 unfold impl_Entry_56.f at h
 split at h
 ·rename_i hh
  obtain ⟨h1,h2⟩ := hh
  obtain rfl := Option.some.inj h
  exact all_entry 68 #[.pointer (some ⟨rb,0,none⟩)] (enters_of Tryd.func68 (by kernel_rfl) rfl) (fun x => (okE k x == some true) && decide (x.f0 = t)) A0 c0 l0 w hr0 h2 (fun W i hi hb => by
   have hx : l0.getD i z84 ∈ l0 := by rw [List.getD_eq_getElem?_getD,List.getElem?_eq_getElem hi]; exact List.getElem_mem hi
   obtain ⟨b,hb1⟩ := Option.isSome_iff_exists.1 (List.all_eq_true.1 h1 _ hx)
   refine okR_one k _ _ _ _ t b _ W rb (hV.below hb) ((hb.cell (World.block_lt_of_cell? _ _ hcell)).trans hcell) hb1 ?_
   rw [hb1]
   cases b <;> simp)
 ·cases h

/-! ### impl_isValue: function 107 -/
def impl_isValue.f (a0 : Int) : Option (Bool) := (impl_within.f a0 (-1000000) 1000000).bind fun t272 => (some t272)
set_option maxHeartbeats 8000000 in
set_option maxRecDepth 100000 in
theorem impl_isValue.calls (a0 : Int) (r : Bool) (w : World) (h : impl_isValue.f a0 = some r) :
  Calls Tryd.prog 107 #[.int .i64 a0] w fun e w' => e = .returned (.bool r) ∧ Drawn0 w w' := by
 have H : ((impl_within.f a0 (-1000000) 1000000).bind fun t272 => (some t272)) = some r := h
 clear h
 replace H := Option.bind_eq_some_iff.mp H
 obtain ⟨t272,A20,H⟩ := H
 try dsimp only at H
 have A2 := Aside0.mk A20
 clear A20
 obtain rfl := Option.some.inj H
 go_enter Tryd.func107,Tryd.ntmps107
 go_wp2_with (first | ((with_reducible refine gate_callee (f:=54) rfl ?_); refine goesL_ (some 4) rfl rfl Tryd.func54 (by kernel_rfl) rfl #[.int .i64 a0,.int .i64 (-1000000),.int .i64 1000000] rfl mA ?_; (with_reducible refine (impl_within.calls a0 (-1000000) 1000000 t272 _ A2.out).mono ?_); rintro e w' ⟨rfl,⟨nd,rfl⟩⟩; refine ⟨_,rfl,?_⟩))
 go_ret
 exact ⟨by first | rfl | (simp; done) | (simp [*]; done),by repeat (first | exact Drawn0.refl _ | apply Drawn0.step)⟩

/-! ### impl_AggOK: function 91 -/
def impl_AggOK.f (a0_0 : Int) (a0_1 : Int) (a0_2 : Int) (a0_3 : Int) (a0_4 : Int) (a0_5 : Int) : Option (Bool) := if (a0_0 == 0 && (a0_1 == 0 && (a0_2 == 0 && (a0_3 == 0 && (a0_4 == 0 && (a0_5 == 0)))))) = true then (some true) else ((impl_within.f a0_0 1 100000).bind fun t274 => (if t274 = true then ((impl_isValue.f a0_2).bind fun t275 => (if t275 = true then ((impl_isValue.f a0_3).bind fun t276 => (if t276 = true then ((impl_within.f a0_4 a0_2 a0_3).bind fun t277 => (if t277 = true then ((impl_within.f a0_5 a0_2 a0_3).bind fun t278 => (if t278 = true then ((impl_within.f a0_1 (wrap64 (a0_0 * a0_2)) (wrap64 (a0_0 * a0_3))).bind fun t279 => (some t279)) else (some false))) else (some false))) else (some false))) else (some false))) else (some false)))
set_option maxHeartbeats 8000000 in
set_option maxRecDepth 100000 in
theorem impl_AggOK.calls (a0_0 : Int) (a0_1 : Int) (a0_2 : Int) (a0_3 : Int) (a0_4 : Int) (a0_5 : Int) (r : Bool) (w : World) (h : impl_AggOK.f a0_0 a0_1 a0_2 a0_3 a0_4 a0_5 = some r) :
  Calls Tryd.prog 91 #[.agg #[.int .i64 a0_0,.int .i64 a0_1,.int .i64 a0_2,.int .i64 a0_3,.int .i64 a0_4,.int .i64 a0_5]] w fun e w' => e = .returned (.bool r) ∧ Below w.heap.size w w' := by
 have hu49 := Tryd.underlying49
 have HB := Aside0.mk (Below.refl w.heap.size w)
 have H : (if (a0_0 == 0 && (a0_1 == 0 && (a0_2 == 0 && (a0_3 == 0 && (a0_4 == 0 && (a0_5 == 0)))))) = true then (some true) else ((impl_within.f a0_0 1 100000).bind fun t274 => (if t274 = true then ((impl_isValue.f a0_2).bind fun t275 => (if t275 = true then ((impl_isValue.f a0_3).bind fun t276 => (if t276 = true then ((impl_within.f a0_4 a0_2 a0_3).bind fun t277 => (if t277 = true then ((impl_within.f a0_5 a0_2 a0_3).bind fun t278 => (if t278 = true then ((impl_within.f a0_1 (wrap64 (a0_0 * a0_2)) (wrap64 (a0_0 * a0_3))).bind fun t279 => (some t279)) else (some false))) else (some false))) else (some false))) else (some false))) else (some false)))) = some r := h
 clear h
 by_cases c2 : (a0_0 == 0 && (a0_1 == 0 && (a0_2 == 0 && (a0_3 == 0 && (a0_4 == 0 && (a0_5 == 0)))))) = true
 ·rw [if_pos c2] at H
  have c2b0 : (a0_0 == 0 && (a0_1 == 0 && (a0_2 == 0 && (a0_3 == 0 && (a0_4 == 0 && (a0_5 == 0)))))) = true := c2
  (try (have c2b1 : decide (a0_0 = 0 && (a0_1 == 0 && (a0_2 == 0 && (a0_3 == 0 && (a0_4 == 0 && (a0_5 == 0)))))) = true := by simpa using c2))
  (try (have c2b2 : (a0_0 == 0 && (a0_1 == 0 && (a0_2 == 0 && (a0_3 == 0 && (a0_4 == 0 && (a0_5 == 0)))))) = true := by simpa using c2))
  clear c2
  obtain rfl := Option.some.inj H
  go_enter Tryd.func91,Tryd.ntmps91
  go_wp2_with (first | ((with_reducible refine gate_dst (N:=1) rfl ?_); refine box_event ?hg (N:=1) ?hd (cs := #[.int .i64 a0_0,.int .i64 a0_1,.int .i64 a0_2,.int .i64 a0_3,.int .i64 a0_4,.int .i64 a0_5]) (t:=49) ?hr ?_; (case hd => rfl); (case hg => rfl); (case hr => first | (go_simp; done) | (go_simp; rfl)); intro gb273 hg w3 hbox hb; have n0_ := Aside0.mk (below_step bA hb); have n1_ := Aside0.mk (hbox); have n2_ := Aside0.mk ((by rw [hg]; exact (below_size bA) : w.heap.size ≤ gb273)); have n3_ := Aside0.mk ((by rw [hg]; exact (below_size bA) : w.heap.size ≤ gb273)); clear HB; have HB := n0_; have BK273 := n1_; have GW273 := n2_; have GE273 := n3_; clear n0_ n1_ n2_ n3_; clear hb hbox hg; have hcz4_0 : w3.cell? ⟨gb273,0,none⟩ = some (.int .i64 a0_0) := (blk_cell BK273.out 0).trans rfl; have hcz4_1 : w3.cell? ⟨gb273,1,none⟩ = some (.int .i64 a0_1) := (blk_cell BK273.out 1).trans rfl; have hcz4_2 : w3.cell? ⟨gb273,2,none⟩ = some (.int .i64 a0_2) := (blk_cell BK273.out 2).trans rfl; have hcz4_3 : w3.cell? ⟨gb273,3,none⟩ = some (.int .i64 a0_3) := (blk_cell BK273.out 3).trans rfl; have hcz4_4 : w3.cell? ⟨gb273,4,none⟩ = some (.int .i64 a0_4) := (blk_cell BK273.out 4).trans rfl; have hcz4_5 : w3.cell? ⟨gb273,5,none⟩ = some (.int .i64 a0_5) := (blk_cell BK273.out 5).trans rfl; have hfz4_0 := blk_frozen BK273.out 0; have hfz4_1 := blk_frozen BK273.out 1; have hfz4_2 := blk_frozen BK273.out 2; have hfz4_3 := blk_frozen BK273.out 3; have hfz4_4 := blk_frozen BK273.out 4; have hfz4_5 := blk_frozen BK273.out 5))
  go_ret
  exact ⟨by first | rfl | (simp only [i64_w,i32_w] <;> rfl) | (simp [errW_none,errW_some] <;> rfl) | (simp [*,errW_none,errW_some] <;> rfl),bA⟩
 ·rw [if_neg c2] at H
  have c2b0 : (a0_0 == 0 && (a0_1 == 0 && (a0_2 == 0 && (a0_3 == 0 && (a0_4 == 0 && (a0_5 == 0)))))) = false := by simpa using c2
  (try (have c2b1 : decide (a0_0 = 0 && (a0_1 == 0 && (a0_2 == 0 && (a0_3 == 0 && (a0_4 == 0 && (a0_5 == 0)))))) = false := by simpa using c2))
  (try (have c2b2 : (a0_0 == 0 && (a0_1 == 0 && (a0_2 == 0 && (a0_3 == 0 && (a0_4 == 0 && (a0_5 == 0)))))) = false := by simpa using c2))
  (try (have c2b3 : ¬ (a0_0 = 0 && (a0_1 == 0 && (a0_2 == 0 && (a0_3 == 0 && (a0_4 == 0 && (a0_5 == 0)))))) := by simpa using c2))
  clear c2
  replace H := Option.bind_eq_some_iff.mp H
  obtain ⟨t274,A50,H⟩ := H
  try dsimp only at H
  have A5 := Aside0.mk A50
  clear A50
  by_cases c6 : t274 = true
  ·subst c6
   rw [if_pos rfl] at H
   replace H := Option.bind_eq_some_iff.mp H
   obtain ⟨t275,A70,H⟩ := H
   try dsimp only at H
   have A7 := Aside0.mk A70
   clear A70
   by_cases c8 : t275 = true
   ·subst c8
    rw [if_pos rfl] at H
    replace H := Option.bind_eq_some_iff.mp H
    obtain ⟨t276,A90,H⟩ := H
    try dsimp only at H
    have A9 := Aside0.mk A90
    clear A90
    by_cases c10 : t276 = true
    ·subst c10
     rw [if_pos rfl] at H
     replace H := Option.bind_eq_some_iff.mp H
     obtain ⟨t277,A110,H⟩ := H
     try dsimp only at H
     have A11 := Aside0.mk A110
     clear A110
     by_cases c12 : t277 = true
     ·subst c12
      rw [if_pos rfl] at H
      replace H := Option.bind_eq_some_iff.mp H
      obtain ⟨t278,A130,H⟩ := H
      try dsimp only at H
      have A13 := Aside0.mk A130
      clear A130
      by_cases c14 : t278 = true
      ·subst c14
       rw [if_pos rfl] at H
       replace H := Option.bind_eq_some_iff.mp H
       obtain ⟨t279,A150,H⟩ := H
       try dsimp only at H
       have A15 := Aside0.mk A150
       clear A150
       obtain rfl := Option.some.inj H
       go_enter Tryd.func91,Tryd.ntmps91
       go_wp2_with (first | ((with_reducible refine gate_dst (N:=1) rfl ?_); refine box_event ?hg (N:=1) ?hd (cs := #[.int .i64 a0_0,.int .i64 a0_1,.int .i64 a0_2,.int .i64 a0_3,.int .i64 a0_4,.int .i64 a0_5]) (t:=49) ?hr ?_; (case hd => rfl); (case hg => rfl); (case hr => first | (go_simp; done) | (go_simp; rfl)); intro gb273 hg w16 hbox hb; have n0_ := Aside0.mk (below_step bA hb); have n1_ := Aside0.mk (hbox); have n2_ := Aside0.mk ((by rw [hg]; exact (below_size bA) : w.heap.size ≤ gb273)); have n3_ := Aside0.mk ((by rw [hg]; exact (below_size bA) : w.heap.size ≤ gb273)); clear HB; have HB := n0_; have BK273 := n1_; have GW273 := n2_; have GE273 := n3_; clear n0_ n1_ n2_ n3_; clear hb hbox hg; have hcz17_0 : w16.cell? ⟨gb273,0,none⟩ = some (.int .i64 a0_0) := (blk_cell BK273.out 0).trans rfl; have hcz17_1 : w16.cell? ⟨gb273,1,none⟩ = some (.int .i64 a0_1) := (blk_cell BK273.out 1).trans rfl; have hcz17_2 : w16.cell? ⟨gb273,2,none⟩ = some (.int .i64 a0_2) := (blk_cell BK273.out 2).trans rfl; have hcz17_3 : w16.cell? ⟨gb273,3,none⟩ = some (.int .i64 a0_3) := (blk_cell BK273.out 3).trans rfl; have hcz17_4 : w16.cell? ⟨gb273,4,none⟩ = some (.int .i64 a0_4) := (blk_cell BK273.out 4).trans rfl; have hcz17_5 : w16.cell? ⟨gb273,5,none⟩ = some (.int .i64 a0_5) := (blk_cell BK273.out 5).trans rfl; have hfz17_0 := blk_frozen BK273.out 0; have hfz17_1 := blk_frozen BK273.out 1; have hfz17_2 := blk_frozen BK273.out 2; have hfz17_3 := blk_frozen BK273.out 3; have hfz17_4 := blk_frozen BK273.out 4; have hfz17_5 := blk_frozen BK273.out 5) | ((with_reducible refine gate_callee (f:=54) rfl ?_); refine goesL_ (some 8) rfl rfl Tryd.func54 (by kernel_rfl) rfl #[.int .i64 a0_0,.int .i64 1,.int .i64 100000] rfl mA ?_; (with_reducible refine (impl_within.calls a0_0 1 100000 true _ A5.out).mono ?_); rintro e w' ⟨rfl,⟨nd,rfl⟩⟩; refine ⟨_,rfl,?_⟩) | (go_at_call 107; (with_reducible refine (impl_isValue.calls a0_2 true _ A7.out).mono ?_); rintro e w' ⟨rfl,⟨nd,rfl⟩⟩) | (go_at_call 107; (with_reducible refine (impl_isValue.calls a0_3 true _ A9.out).mono ?_); rintro e w' ⟨rfl,⟨nd,rfl⟩⟩) | (go_at_call 54; (with_reducible refine (impl_within.calls a0_4 a0_2 a0_3 true _ A11.out).mono ?_); rintro e w' ⟨rfl,⟨nd,rfl⟩⟩) | (go_at_call 54; (with_reducible refine (impl_within.calls a0_5 a0_2 a0_3 true _ A13.out).mono ?_); rintro e w' ⟨rfl,⟨nd,rfl⟩⟩) | (go_at_call 54; (with_reducible refine (impl_within.calls a0_1 (wrap64 (a0_0 * a0_2)) (wrap64 (a0_0 * a0_3)) t279 _ A15.out).mono ?_); rintro e w' ⟨rfl,⟨nd,rfl⟩⟩))
       go_ret
       exact ⟨by first | rfl | (simp only [i64_w,i32_w] <;> rfl) | (simp [errW_none,errW_some] <;> rfl) | (simp [*,errW_none,errW_some] <;> rfl),bA⟩
      ·replace c14 := Bool.eq_false_iff.mpr c14
       subst c14
       rw [if_neg (show ¬ (false = true) by decide)] at H
       obtain rfl := Option.some.inj H
       go_enter Tryd.func91,Tryd.ntmps91
       go_wp2_with (first | ((with_reducible refine gate_dst (N:=1) rfl ?_); refine box_event ?hg (N:=1) ?hd (cs := #[.int .i64 a0_0,.int .i64 a0_1,.int .i64 a0_2,.int .i64 a0_3,.int .i64 a0_4,.int .i64 a0_5]) (t:=49) ?hr ?_; (case hd => rfl); (case hg => rfl); (case hr => first | (go_simp; done) | (go_simp; rfl)); intro gb273 hg w18 hbox hb; have n0_ := Aside0.mk (below_step bA hb); have n1_ := Aside0.mk (hbox); have n2_ := Aside0.mk ((by rw [hg]; exact (below_size bA) : w.heap.size ≤ gb273)); have n3_ := Aside0.mk ((by rw [hg]; exact (below_size bA) : w.heap.size ≤ gb273)); clear HB; have HB := n0_; have BK273 := n1_; have GW273 := n2_; have GE273 := n3_; clear n0_ n1_ n2_ n3_; clear hb hbox hg; have hcz19_0 : w18.cell? ⟨gb273,0,none⟩ = some (.int .i64 a0_0) := (blk_cell BK273.out 0).trans rfl; have hcz19_1 : w18.cell? ⟨gb273,1,none⟩ = some (.int .i64 a0_1) := (blk_cell BK273.out 1).trans rfl; have hcz19_2 : w18.cell? ⟨gb273,2,none⟩ = some (.int .i64 a0_2) := (blk_cell BK273.out 2).trans rfl; have hcz19_3 : w18.cell? ⟨gb273,3,none⟩ = some (.int .i64 a0_3) := (blk_cell BK273.out 3).trans rfl; have hcz19_4 : w18.cell? ⟨gb273,4,none⟩ = some (.int .i64 a0_4) := (blk_cell BK273.out 4).trans rfl; have hcz19_5 : w18.cell? ⟨gb273,5,none⟩ = some (.int .i64 a0_5) := (blk_cell BK273.out 5).trans rfl; have hfz19_0 := blk_frozen BK273.out 0; have hfz19_1 := blk_frozen BK273.out 1; have hfz19_2 := blk_frozen BK273.out 2; have hfz19_3 := blk_frozen BK273.out 3; have hfz19_4 := blk_frozen BK273.out 4; have hfz19_5 := blk_frozen BK273.out 5) | ((with_reducible refine gate_callee (f:=54) rfl ?_); refine goesL_ (some 8) rfl rfl Tryd.func54 (by kernel_rfl) rfl #[.int .i64 a0_0,.int .i64 1,.int .i64 100000] rfl mA ?_; (with_reducible refine (impl_within.calls a0_0 1 100000 true _ A5.out).mono ?_); rintro e w' ⟨rfl,⟨nd,rfl⟩⟩; refine ⟨_,rfl,?_⟩) | (go_at_call 107; (with_reducible refine (impl_isValue.calls a0_2 true _ A7.out).mono ?_); rintro e w' ⟨rfl,⟨nd,rfl⟩⟩) | (go_at_call 107; (with_reducible refine (impl_isValue.calls a0_3 true _ A9.out).mono ?_); rintro e w' ⟨rfl,⟨nd,rfl⟩⟩) | (go_at_call 54; (with_reducible refine (impl_within.calls a0_4 a0_2 a0_3 true _ A11.out).mono ?_); rintro e w' ⟨rfl,⟨nd,rfl⟩⟩) | (go_at_call 54; (with_reducible refine (impl_within.calls a0_5 a0_2 a0_3 false _ A13.out).mono ?_); rintro e w' ⟨rfl,⟨nd,rfl⟩⟩))
       go_ret
       exact ⟨by first | rfl | (simp only [i64_w,i32_w] <;> rfl) | (simp [errW_none,errW_some] <;> rfl) | (simp [*,errW_none,errW_some] <;> rfl),bA⟩
     ·replace c12 := Bool.eq_false_iff.mpr c12
      subst c12
      rw [if_neg (show ¬ (false = true) by decide)] at H
      obtain rfl := Option.some.inj H
      go_enter Tryd.func91,Tryd.ntmps91
      go_wp2_with (first | ((with_reducible refine gate_dst (N:=1) rfl ?_); refine box_event ?hg (N:=1) ?hd (cs := #[.int .i64 a0_0,.int .i64 a0_1,.int .i64 a0_2,.int .i64 a0_3,.int .i64 a0_4,.int .i64 a0_5]) (t:=49) ?hr ?_; (case hd => rfl); (case hg => rfl); (case hr => first | (go_simp; done) | (go_simp; rfl)); intro gb273 hg w20 hbox hb; have n0_ := Aside0.mk (below_step bA hb); have n1_ := Aside0.mk (hbox); have n2_ := Aside0.mk ((by rw [hg]; exact (below_size bA) : w.heap.size ≤ gb273)); have n3_ := Aside0.mk ((by rw [hg]; exact (below_size bA) : w.heap.size ≤ gb273)); clear HB; have HB := n0_; have BK273 := n1_; have GW273 := n2_; have GE273 := n3_; clear n0_ n1_ n2_ n3_; clear hb hbox hg; have hcz21_0 : w20.cell? ⟨gb273,0,none⟩ = some (.int .i64 a0_0) := (blk_cell BK273.out 0).trans rfl; have hcz21_1 : w20.cell? ⟨gb273,1,none⟩ = some (.int .i64 a0_1) := (blk_cell BK273.out 1).trans rfl; have hcz21_2 : w20.cell? ⟨gb273,2,none⟩ = some (.int .i64 a0_2) := (blk_cell BK273.out 2).trans rfl; have hcz21_3 : w20.cell? ⟨gb273,3,none⟩ = some (.int .i64 a0_3) := (blk_cell BK273.out 3).trans rfl; have hcz21_4 : w20.cell? ⟨gb273,4,none⟩ = some (.int .i64 a0_4) := (blk_cell BK273.out 4).trans rfl; have hcz21_5 : w20.cell? ⟨gb273,5,none⟩ = some (.int .i64 a0_5) := (blk_cell BK273.out 5).trans rfl; have hfz21_0 := blk_frozen BK273.out 0; have hfz21_1 := blk_frozen BK273.out 1; have hfz21_2 := blk_frozen BK273.out 2; have hfz21_3 := blk_frozen BK273.out 3; have hfz21_4 := blk_frozen BK273.out 4; have hfz21_5 := blk_frozen BK273.out 5) | ((with_reducible refine gate_callee (f:=54) rfl ?_); refine goesL_ (some 8) rfl rfl Tryd.func54 (by kernel_rfl) rfl #[.int .i64 a0_0,.int .i64 1,.int .i64 100000] rfl mA ?_; (with_reducible refine (impl_within.calls a0_0 1 100000 true _ A5.out).mono ?_); rintro e w' ⟨rfl,⟨nd,rfl⟩⟩; refine ⟨_,rfl,?_⟩) | (go_at_call 107; (with_reducible refine (impl_isValue.calls a0_2 true _ A7.out).mono ?_); rintro e w' ⟨rfl,⟨nd,rfl⟩⟩) | (go_at_call 107; (with_reducible refine (impl_isValue.calls a0_3 true _ A9.out).mono ?_); rintro e w' ⟨rfl,⟨nd,rfl⟩⟩) | (go_at_call 54; (with_reducible refine (impl_within.calls a0_4 a0_2 a0_3 false _ A11.out).mono ?_); rintro e w' ⟨rfl,⟨nd,rfl⟩⟩))
      go_ret
      exact ⟨by first | rfl | (simp only [i64_w,i32_w] <;> rfl) | (simp [errW_none,errW_some] <;> rfl) | (simp [*,errW_none,errW_some] <;> rfl),bA⟩
    ·replace c10 := Bool.eq_false_iff.mpr c10
     subst c10
     rw [if_neg (show ¬ (false = true) by decide)] at H
     obtain rfl := Option.some.inj H
     go_enter Tryd.func91,Tryd.ntmps91
     go_wp2_with (first | ((with_reducible refine gate_dst (N:=1) rfl ?_); refine box_event ?hg (N:=1) ?hd (cs := #[.int .i64 a0_0,.int .i64 a0_1,.int .i64 a0_2,.int .i64 a0_3,.int .i64 a0_4,.int .i64 a0_5]) (t:=49) ?hr ?_; (case hd => rfl); (case hg => rfl); (case hr => first | (go_simp; done) | (go_simp; rfl)); intro gb273 hg w22 hbox hb; have n0_ := Aside0.mk (below_step bA hb); have n1_ := Aside0.mk (hbox); have n2_ := Aside0.mk ((by rw [hg]; exact (below_size bA) : w.heap.size ≤ gb273)); have n3_ := Aside0.mk ((by rw [hg]; exact (below_size bA) : w.heap.size ≤ gb273)); clear HB; have HB := n0_; have BK273 := n1_; have GW273 := n2_; have GE273 := n3_; clear n0_ n1_ n2_ n3_; clear hb hbox hg; have hcz23_0 : w22.cell? ⟨gb273,0,none⟩ = some (.int .i64 a0_0) := (blk_cell BK273.out 0).trans rfl; have hcz23_1 : w22.cell? ⟨gb273,1,none⟩ = some (.int .i64 a0_1) := (blk_cell BK273.out 1).trans rfl; have hcz23_2 : w22.cell? ⟨gb273,2,none⟩ = some (.int .i64 a0_2) := (blk_cell BK273.out 2).trans rfl; have hcz23_3 : w22.cell? ⟨gb273,3,none⟩ = some (.int .i64 a0_3) := (blk_cell BK273.out 3).trans rfl; have hcz23_4 : w22.cell? ⟨gb273,4,none⟩ = some (.int .i64 a0_4) := (blk_cell BK273.out 4).trans rfl; have hcz23_5 : w22.cell? ⟨gb273,5,none⟩ = some (.int .i64 a0_5) := (blk_cell BK273.out 5).trans rfl; have hfz23_0 := blk_frozen BK273.out 0; have hfz23_1 := blk_frozen BK273.out 1; have hfz23_2 := blk_frozen BK273.out 2; have hfz23_3 := blk_frozen BK273.out 3; have hfz23_4 := blk_frozen BK273.out 4; have hfz23_5 := blk_frozen BK273.out 5) | ((with_reducible refine gate_callee (f:=54) rfl ?_); refine goesL_ (some 8) rfl rfl Tryd.func54 (by kernel_rfl) rfl #[.int .i64 a0_0,.int .i64 1,.int .i64 100000] rfl mA ?_; (with_reducible refine (impl_within.calls a0_0 1 100000 true _ A5.out).mono ?_); rintro e w' ⟨rfl,⟨nd,rfl⟩⟩; refine ⟨_,rfl,?_⟩) | (go_at_call 107; (with_reducible refine (impl_isValue.calls a0_2 true _ A7.out).mono ?_); rintro e w' ⟨rfl,⟨nd,rfl⟩⟩) | (go_at_call 107; (with_reducible refine (impl_isValue.calls a0_3 false _ A9.out).mono ?_); rintro e w' ⟨rfl,⟨nd,rfl⟩⟩))
     go_ret
     exact ⟨by first | rfl | (simp only [i64_w,i32_w] <;> rfl) | (simp [errW_none,errW_some] <;> rfl) | (simp [*,errW_none,errW_some] <;> rfl),bA⟩
   ·replace c8 := Bool.eq_false_iff.mpr c8
    subst c8
    rw [if_neg (show ¬ (false = true) by decide)] at H
    obtain rfl := Option.some.inj H
    go_enter Tryd.func91,Tryd.ntmps91
    go_wp2_with (first | ((with_reducible refine gate_dst (N:=1) rfl ?_); refine box_event ?hg (N:=1) ?hd (cs := #[.int .i64 a0_0,.int .i64 a0_1,.int .i64 a0_2,.int .i64 a0_3,.int .i64 a0_4,.int .i64 a0_5]) (t:=49) ?hr ?_; (case hd => rfl); (case hg => rfl); (case hr => first | (go_simp; done) | (go_simp; rfl)); intro gb273 hg w24 hbox hb; have n0_ := Aside0.mk (below_step bA hb); have n1_ := Aside0.mk (hbox); have n2_ := Aside0.mk ((by rw [hg]; exact (below_size bA) : w.heap.size ≤ gb273)); have n3_ := Aside0.mk ((by rw [hg]; exact (below_size bA) : w.heap.size ≤ gb273)); clear HB; have HB := n0_; have BK273 := n1_; have GW273 := n2_; have GE273 := n3_; clear n0_ n1_ n2_ n3_; clear hb hbox hg; have hcz25_0 : w24.cell? ⟨gb273,0,none⟩ = some (.int .i64 a0_0) := (blk_cell BK273.out 0).trans rfl; have hcz25_1 : w24.cell? ⟨gb273,1,none⟩ = some (.int .i64 a0_1) := (blk_cell BK273.out 1).trans rfl; have hcz25_2 : w24.cell? ⟨gb273,2,none⟩ = some (.int .i64 a0_2) := (blk_cell BK273.out 2).trans rfl; have hcz25_3 : w24.cell? ⟨gb273,3,none⟩ = some (.int .i64 a0_3) := (blk_cell BK273.out 3).trans rfl; have hcz25_4 : w24.cell? ⟨gb273,4,none⟩ = some (.int .i64 a0_4) := (blk_cell BK273.out 4).trans rfl; have hcz25_5 : w24.cell? ⟨gb273,5,none⟩ = some (.int .i64 a0_5) := (blk_cell BK273.out 5).trans rfl; have hfz25_0 := blk_frozen BK273.out 0; have hfz25_1 := blk_frozen BK273.out 1; have hfz25_2 := blk_frozen BK273.out 2; have hfz25_3 := blk_frozen BK273.out 3; have hfz25_4 := blk_frozen BK273.out 4; have hfz25_5 := blk_frozen BK273.out 5) | ((with_reducible refine gate_callee (f:=54) rfl ?_); refine goesL_ (some 8) rfl rfl Tryd.func54 (by kernel_rfl) rfl #[.int .i64 a0_0,.int .i64 1,.int .i64 100000] rfl mA ?_; (with_reducible refine (impl_within.calls a0_0 1 100000 true _ A5.out).mono ?_); rintro e w' ⟨rfl,⟨nd,rfl⟩⟩; refine ⟨_,rfl,?_⟩) | (go_at_call 107; (with_reducible refine (impl_isValue.calls a0_2 false _ A7.out).mono ?_); rintro e w' ⟨rfl,⟨nd,rfl⟩⟩))
    go_ret
    exact ⟨by first | rfl | (simp only [i64_w,i32_w] <;> rfl) | (simp [errW_none,errW_some] <;> rfl) | (simp [*,errW_none,errW_some] <;> rfl),bA⟩
  ·replace c6 := Bool.eq_false_iff.mpr c6
   subst c6
   rw [if_neg (show ¬ (false = true) by decide)] at H
   obtain rfl := Option.some.inj H
   go_enter Tryd.func91,Tryd.ntmps91
   go_wp2_with (first | ((with_reducible refine gate_dst (N:=1) rfl ?_); refine box_event ?hg (N:=1) ?hd (cs := #[.int .i64 a0_0,.int .i64 a0_1,.int .i64 a0_2,.int .i64 a0_3,.int .i64 a0_4,.int .i64 a0_5]) (t:=49) ?hr ?_; (case hd => rfl); (case hg => rfl); (case hr => first | (go_simp; done) | (go_simp; rfl)); intro gb273 hg w26 hbox hb; have n0_ := Aside0.mk (below_step bA hb); have n1_ := Aside0.mk (hbox); have n2_ := Aside0.mk ((by rw [hg]; exact (below_size bA) : w.heap.size ≤ gb273)); have n3_ := Aside0.mk ((by rw [hg]; exact (below_size bA) : w.heap.size ≤ gb273)); clear HB; have HB := n0_; have BK273 := n1_; have GW273 := n2_; have GE273 := n3_; clear n0_ n1_ n2_ n3_; clear hb hbox hg; have hcz27_0 : w26.cell? ⟨gb273,0,none⟩ = some (.int .i64 a0_0) := (blk_cell BK273.out 0).trans rfl; have hcz27_1 : w26.cell? ⟨gb273,1,none⟩ = some (.int .i64 a0_1) := (blk_cell BK273.out 1).trans rfl; have hcz27_2 : w26.cell? ⟨gb273,2,none⟩ = some (.int .i64 a0_2) := (blk_cell BK273.out 2).trans rfl; have hcz27_3 : w26.cell? ⟨gb273,3,none⟩ = some (.int .i64 a0_3) := (blk_cell BK273.out 3).trans rfl; have hcz27_4 : w26.cell? ⟨gb273,4,none⟩ = some (.int .i64 a0_4) := (blk_cell BK273.out 4).trans rfl; have hcz27_5 : w26.cell? ⟨gb273,5,none⟩ = some (.int .i64 a0_5) := (blk_cell BK273.out 5).trans rfl; have hfz27_0 := blk_frozen BK273.out 0; have hfz27_1 := blk_frozen BK273.out 1; have hfz27_2 := blk_frozen BK273.out 2; have hfz27_3 := blk_frozen BK273.out 3; have hfz27_4 := blk_frozen BK273.out 4; have hfz27_5 := blk_frozen BK273.out 5) | ((with_reducible refine gate_callee (f:=54) rfl ?_); refine goesL_ (some 8) rfl rfl Tryd.func54 (by kernel_rfl) rfl #[.int .i64 a0_0,.int .i64 1,.int .i64 100000] rfl mA ?_; (with_reducible refine (impl_within.calls a0_0 1 100000 false _ A5.out).mono ?_); rintro e w' ⟨rfl,⟨nd,rfl⟩⟩; refine ⟨_,rfl,?_⟩))
   go_ret
   exact ⟨by first | rfl | (simp only [i64_w,i32_w] <;> rfl) | (simp [errW_none,errW_some] <;> rfl) | (simp [*,errW_none,errW_some] <;> rfl),bA⟩

/-! ### impl_isGot: function 58 -/
def impl_isGot.f (a0_0 : Int) (a0_1 : Int) (a0_2 : Int) (a0_3 : Int) (a0_4 : Int) (a0_5 : Int) : Option (Bool) := (impl_AggOK.f a0_0 a0_1 a0_2 a0_3 a0_4 a0_5).bind fun t281 => (if t281 = true then (some (decide (a0_0 ≤ 1000))) else (some false))
set_option maxHeartbeats 8000000 in
set_option maxRecDepth 100000 in
theorem impl_isGot.calls (a0_0 : Int) (a0_1 : Int) (a0_2 : Int) (a0_3 : Int) (a0_4 : Int) (a0_5 : Int) (r : Bool) (w : World) (h : impl_isGot.f a0_0 a0_1 a0_2 a0_3 a0_4 a0_5 = some r) :
  Calls Tryd.prog 58 #[.agg #[.int .i64 a0_0,.int .i64 a0_1,.int .i64 a0_2,.int .i64 a0_3,.int .i64 a0_4,.int .i64 a0_5]] w fun e w' => e = .returned (.bool r) ∧ Below w.heap.size w w' := by
 have hu49 := Tryd.underlying49
 have HB := Aside0.mk (Below.refl w.heap.size w)
 have H : ((impl_AggOK.f a0_0 a0_1 a0_2 a0_3 a0_4 a0_5).bind fun t281 => (if t281 = true then (some (decide (a0_0 ≤ 1000))) else (some false))) = some r := h
 clear h
 replace H := Option.bind_eq_some_iff.mp H
 obtain ⟨t281,A20,H⟩ := H
 try dsimp only at H
 have A2 := Aside0.mk A20
 clear A20
 by_cases c3 : t281 = true
 ·subst c3
  rw [if_pos rfl] at H
  obtain rfl := Option.some.inj H
  go_enter Tryd.func58,Tryd.ntmps58
  go_wp2_with (first | ((with_reducible refine gate_dst (N:=1) rfl ?_); refine box_event ?hg (N:=1) ?hd (cs := #[.int .i64 a0_0,.int .i64 a0_1,.int .i64 a0_2,.int .i64 a0_3,.int .i64 a0_4,.int .i64 a0_5]) (t:=49) ?hr ?_; (case hd => rfl); (case hg => rfl); (case hr => first | (go_simp; done) | (go_simp; rfl)); intro gb280 hg w4 hbox hb; have n0_ := Aside0.mk (below_step bA hb); have n1_ := Aside0.mk (hbox); have n2_ := Aside0.mk ((by rw [hg]; exact (below_size bA) : w.heap.size ≤ gb280)); have n3_ := Aside0.mk ((by rw [hg]; exact (below_size bA) : w.heap.size ≤ gb280)); clear HB; have HB := n0_; have BK280 := n1_; have GW280 := n2_; have GE280 := n3_; clear n0_ n1_ n2_ n3_; clear hb hbox hg; have hcz5_0 : w4.cell? ⟨gb280,0,none⟩ = some (.int .i64 a0_0) := (blk_cell BK280.out 0).trans rfl; have hcz5_1 : w4.cell? ⟨gb280,1,none⟩ = some (.int .i64 a0_1) := (blk_cell BK280.out 1).trans rfl; have hcz5_2 : w4.cell? ⟨gb280,2,none⟩ = some (.int .i64 a0_2) := (blk_cell BK280.out 2).trans rfl; have hcz5_3 : w4.cell? ⟨gb280,3,none⟩ = some (.int .i64 a0_3) := (blk_cell BK280.out 3).trans rfl; have hcz5_4 : w4.cell? ⟨gb280,4,none⟩ = some (.int .i64 a0_4) := (blk_cell BK280.out 4).trans rfl; have hcz5_5 : w4.cell? ⟨gb280,5,none⟩ = some (.int .i64 a0_5) := (blk_cell BK280.out 5).trans rfl; have hfz5_0 := blk_frozen BK280.out 0; have hfz5_1 := blk_frozen BK280.out 1; have hfz5_2 := blk_frozen BK280.out 2; have hfz5_3 := blk_frozen BK280.out 3; have hfz5_4 := blk_frozen BK280.out 4; have hfz5_5 := blk_frozen BK280.out 5) | ((with_reducible refine gate_callee (f:=91) rfl ?_); refine goesL_ (some 4) rfl rfl Tryd.func91 (by kernel_rfl) rfl #[.agg #[.int .i64 a0_0,.int .i64 a0_1,.int .i64 a0_2,.int .i64 a0_3,.int .i64 a0_4,.int .i64 a0_5]] rfl mA ?_; (with_reducible refine (impl_AggOK.calls a0_0 a0_1 a0_2 a0_3 a0_4 a0_5 true _ A2.out).mono ?_); rintro e w6 ⟨rfl,hb⟩; refine ⟨_,rfl,?_⟩; have n0_ := Aside0.mk (blk_below (g:=gb280) (o:=.cells #[.int .i64 a0_0,.int .i64 a0_1,.int .i64 a0_2,.int .i64 a0_3,.int .i64 a0_4,.int .i64 a0_5] 49 (0,0)) (kA BK280.out) hb); have n1_ := Aside0.mk (below_step bA hb); clear BK280; clear HB; have BK280 := n0_; have HB := n1_; clear n0_ n1_; (try clear hb); (try clear hb2); (try clear hk); (try clear hi); have hcz7_0 : w6.cell? ⟨gb280,0,none⟩ = some (.int .i64 a0_0) := (blk_cell BK280.out 0).trans rfl; have hcz7_1 : w6.cell? ⟨gb280,1,none⟩ = some (.int .i64 a0_1) := (blk_cell BK280.out 1).trans rfl; have hcz7_2 : w6.cell? ⟨gb280,2,none⟩ = some (.int .i64 a0_2) := (blk_cell BK280.out 2).trans rfl; have hcz7_3 : w6.cell? ⟨gb280,3,none⟩ = some (.int .i64 a0_3) := (blk_cell BK280.out 3).trans rfl; have hcz7_4 : w6.cell? ⟨gb280,4,none⟩ = some (.int .i64 a0_4) := (blk_cell BK280.out 4).trans rfl; have hcz7_5 : w6.cell? ⟨gb280,5,none⟩ = some (.int .i64 a0_5) := (blk_cell BK280.out 5).trans rfl; have hfz7_0 := blk_frozen BK280.out 0; have hfz7_1 := blk_frozen BK280.out 1; have hfz7_2 := blk_frozen BK280.out 2; have hfz7_3 := blk_frozen BK280.out 3; have hfz7_4 := blk_frozen BK280.out 4; have hfz7_5 := blk_frozen BK280.out 5))
  go_ret
  exact ⟨by first | rfl | (simp [errW_none,errW_some] <;> rfl) | (simp [*,errW_none,errW_some] <;> rfl),bA⟩
 ·replace c3 := Bool.eq_false_iff.mpr c3
  subst c3
  rw [if_neg (show ¬ (false = true) by decide)] at H
  obtain rfl := Option.some.inj H
  go_enter Tryd.func58,Tryd.ntmps58
  go_wp2_with (first | ((with_reducible refine gate_dst (N:=1) rfl ?_); refine box_event ?hg (N:=1) ?hd (cs := #[.int .i64 a0_0,.int .i64 a0_1,.int .i64 a0_2,.int .i64 a0_3,.int .i64 a0_4,.int .i64 a0_5]) (t:=49) ?hr ?_; (case hd => rfl); (case hg => rfl); (case hr => first | (go_simp; done) | (go_simp; rfl)); intro gb280 hg w8 hbox hb; have n0_ := Aside0.mk (below_step bA hb); have n1_ := Aside0.mk (hbox); have n2_ := Aside0.mk ((by rw [hg]; exact (below_size bA) : w.heap.size ≤ gb280)); have n3_ := Aside0.mk ((by rw [hg]; exact (below_size bA) : w.heap.size ≤ gb280)); clear HB; have HB := n0_; have BK280 := n1_; have GW280 := n2_; have GE280 := n3_; clear n0_ n1_ n2_ n3_; clear hb hbox hg; have hcz9_0 : w8.cell? ⟨gb280,0,none⟩ = some (.int .i64 a0_0) := (blk_cell BK280.out 0).trans rfl; have hcz9_1 : w8.cell? ⟨gb280,1,none⟩ = some (.int .i64 a0_1) := (blk_cell BK280.out 1).trans rfl; have hcz9_2 : w8.cell? ⟨gb280,2,none⟩ = some (.int .i64 a0_2) := (blk_cell BK280.out 2).trans rfl; have hcz9_3 : w8.cell? ⟨gb280,3,none⟩ = some (.int .i64 a0_3) := (blk_cell BK280.out 3).trans rfl; have hcz9_4 : w8.cell? ⟨gb280,4,none⟩ = some (.int .i64 a0_4) := (blk_cell BK280.out 4).trans rfl; have hcz9_5 : w8.cell? ⟨gb280,5,none⟩ = some (.int .i64 a0_5) := (blk_cell BK280.out 5).trans rfl; have hfz9_0 := blk_frozen BK280.out 0; have hfz9_1 := blk_frozen BK280.out 1; have hfz9_2 := blk_frozen BK280.out 2; have hfz9_3 := blk_frozen BK280.out 3; have hfz9_4 := blk_frozen BK280.out 4; have hfz9_5 := blk_frozen BK280.out 5) | ((with_reducible refine gate_callee (f:=91) rfl ?_); refine goesL_ (some 4) rfl rfl Tryd.func91 (by kernel_rfl) rfl #[.agg #[.int .i64 a0_0,.int .i64 a0_1,.int .i64 a0_2,.int .i64 a0_3,.int .i64 a0_4,.int .i64 a0_5]] rfl mA ?_; (with_reducible refine (impl_AggOK.calls a0_0 a0_1 a0_2 a0_3 a0_4 a0_5 false _ A2.out).mono ?_); rintro e w10 ⟨rfl,hb⟩; refine ⟨_,rfl,?_⟩; have n0_ := Aside0.mk (blk_below (g:=gb280) (o:=.cells #[.int .i64 a0_0,.int .i64 a0_1,.int .i64 a0_2,.int .i64 a0_3,.int .i64 a0_4,.int .i64 a0_5] 49 (0,0)) (kA BK280.out) hb); have n1_ := Aside0.mk (below_step bA hb); clear BK280; clear HB; have BK280 := n0_; have HB := n1_; clear n0_ n1_; (try clear hb); (try clear hb2); (try clear hk); (try clear hi)))
  go_ret
  exact ⟨by first | rfl | (simp [errW_none,errW_some] <;> rfl) | (simp [*,errW_none,errW_some] <;> rfl),bA⟩

/-! ### impl_isTier: function 64 -/
def impl_isTier.f (a0 : Int) : Option (Bool) := (impl_within.f a0 0 2).bind fun t282 => (some t282)
set_option maxHeartbeats 8000000 in
set_option maxRecDepth 100000 in
theorem impl_isTier.calls (a0 : Int) (r : Bool) (w : World) (h : impl_isTier.f a0 = some r) :
  Calls Tryd.prog 64 #[.int .i64 a0] w fun e w' => e = .returned (.bool r) ∧ Drawn0 w w' := by
 have H : ((impl_within.f a0 0 2).bind fun t282 => (some t282)) = some r := h
 clear h
 replace H := Option.bind_eq_some_iff.mp H
 obtain ⟨t282,A20,H⟩ := H
 try dsimp only at H
 have A2 := Aside0.mk A20
 clear A20
 obtain rfl := Option.some.inj H
 go_enter Tryd.func64,Tryd.ntmps64
 go_wp2_with (first | ((with_reducible refine gate_callee (f:=54) rfl ?_); refine goesL_ (some 4) rfl rfl Tryd.func54 (by kernel_rfl) rfl #[.int .i64 a0,.int .i64 0,.int .i64 2] rfl mA ?_; (with_reducible refine (impl_within.calls a0 0 2 t282 _ A2.out).mono ?_); rintro e w' ⟨rfl,⟨nd,rfl⟩⟩; refine ⟨_,rfl,?_⟩))
 go_ret
 exact ⟨by first | rfl | (simp; done) | (simp [*]; done),by repeat (first | exact Drawn0.refl _ | apply Drawn0.step)⟩

/-! ### impl_isUntil: function 66 -/
def impl_isUntil.f (a0 : Int) : Option (Bool) := (impl_within.f a0 0 200000).bind fun t283 => (some t283)
set_option maxHeartbeats 8000000 in
set_option maxRecDepth 100000 in
theorem impl_isUntil.calls (a0 : Int) (r : Bool) (w : World) (h : impl_isUntil.f a0 = some r) :
  Calls Tryd.prog 66 #[.int .i64 a0] w fun e w' => e = .returned (.bool r) ∧ Drawn0 w w' := by
 have H : ((impl_within.f a0 0 200000).bind fun t283 => (some t283)) = some r := h
 clear h
 replace H := Option.bind_eq_some_iff.mp H
 obtain ⟨t283,A20,H⟩ := H
 try dsimp only at H
 have A2 := Aside0.mk A20
 clear A20
 obtain rfl := Option.some.inj H
 go_enter Tryd.func66,Tryd.ntmps66
 go_wp2_with (first | ((with_reducible refine gate_callee (f:=54) rfl ?_); refine goesL_ (some 4) rfl rfl Tryd.func54 (by kernel_rfl) rfl #[.int .i64 a0,.int .i64 0,.int .i64 200000] rfl mA ?_; (with_reducible refine (impl_within.calls a0 0 200000 t283 _ A2.out).mono ?_); rintro e w' ⟨rfl,⟨nd,rfl⟩⟩; refine ⟨_,rfl,?_⟩))
 go_ret
 exact ⟨by first | rfl | (simp; done) | (simp [*]; done),by repeat (first | exact Drawn0.refl _ | apply Drawn0.step)⟩

/-! ### impl_isCode: function 67 -/
def impl_isCode.f (a0 : Int) : Option (Bool) := (impl_within.f a0 0 19).bind fun t284 => (some t284)
set_option maxHeartbeats 8000000 in
set_option maxRecDepth 100000 in
theorem impl_isCode.calls (a0 : Int) (r : Bool) (w : World) (h : impl_isCode.f a0 = some r) :
  Calls Tryd.prog 67 #[.int .i64 a0] w fun e w' => e = .returned (.bool r) ∧ Drawn0 w w' := by
 have H : ((impl_within.f a0 0 19).bind fun t284 => (some t284)) = some r := h
 clear h
 replace H := Option.bind_eq_some_iff.mp H
 obtain ⟨t284,A20,H⟩ := H
 try dsimp only at H
 have A2 := Aside0.mk A20
 clear A20
 obtain rfl := Option.some.inj H
 go_enter Tryd.func67,Tryd.ntmps67
 go_wp2_with (first | ((with_reducible refine gate_callee (f:=54) rfl ?_); refine goesL_ (some 4) rfl rfl Tryd.func54 (by kernel_rfl) rfl #[.int .i64 a0,.int .i64 0,.int .i64 19] rfl mA ?_; (with_reducible refine (impl_within.calls a0 0 19 t284 _ A2.out).mono ?_); rintro e w' ⟨rfl,⟨nd,rfl⟩⟩; refine ⟨_,rfl,?_⟩))
 go_ret
 exact ⟨by first | rfl | (simp; done) | (simp [*]; done),by repeat (first | exact Drawn0.refl _ | apply Drawn0.step)⟩

/-! ### impl_ReaderOK: function 25 -/
def impl_ReaderOK.f (k : Nat) (a0_0 : Int) (a0_1 : Int) (a0_2 : Int) (a0_3 : Int) (a0_4 : Int) (a0_5 : Int) (a0_6 : Int) (l0_7 : List (S84)) (a0_8 : Int) (a0_9 : Int) (a0_10 : Int) (a0_11 : Int) (a0_12 : Int) (a0_13 : Int) : Option (Bool) := (impl_isId.f a0_0).bind fun t286 => (if t286 = true then ((impl_within.f a0_1 0 4).bind fun t287 => (if t287 = true then ((impl_isTier.f a0_2).bind fun t288 => (if t288 = true then ((impl_isRange.f a0_3 a0_4).bind fun t289 => (if t289 = true then ((impl_isUntil.f a0_5).bind fun t290 => (if t290 = true then ((impl_isCode.f a0_6).bind fun t291 => (if t291 = true then ((impl_isGot.f a0_8 a0_9 a0_10 a0_11 a0_12 a0_13).bind fun t292 => (if t292 = true then (if (l0_7.length : Int) ≤ 300 then ((impl_Entry_56.f k l0_7 a0_2).bind fun t293 => (some t293)) else (some false)) else (some false))) else (some false))) else (some false))) else (some false))) else (some false))) else (some false))) else (some false))
theorem impl_ReaderOK.mono : ∀ a0 a1 a2 a3 a4 a5 a6 a7 a8 a9 a10 a11 a12 a13 k,LeO (impl_ReaderOK.f k a0 a1 a2 a3 a4 a5 a6 a7 a8 a9 a10 a11 a12 a13) (impl_ReaderOK.f (k + 1) a0 a1 a2 a3 a4 a5 a6 a7 a8 a9 a10 a11 a12 a13) := by
 intro a0 a1 a2 a3 a4 a5 a6 a7 a8 a9 a10 a11 a12 a13 k
 unfold impl_ReaderOK.f
 repeat' first
   | (with_reducible exact impl_Entry_56.mono _ _ _)
   | (with_reducible exact LeO.refl _)
   | (with_reducible exact LeO.none _)
   | (with_reducible refine LeO.ite ?_ ?_)
   | (with_reducible refine LeO.bind ?_ (fun _ => ?_))
   | exact impl_Entry_56.mono _ _ _
   | exact LeO.none _
   | refine LeO.ite ?_ ?_
   | refine LeO.bind ?_ (fun _ => ?_)
set_option maxHeartbeats 8000000 in
set_option maxRecDepth 100000 in
theorem impl_ReaderOK.calls (k : Nat) (a0_0 : Int) (a0_1 : Int) (a0_2 : Int) (a0_3 : Int) (a0_4 : Int) (a0_5 : Int) (a0_6 : Int) (A0_7 : Option Addr) (c0_7 : Nat) (l0_7 : List (S84)) (a0_8 : Int) (a0_9 : Int) (a0_10 : Int) (a0_11 : Int) (a0_12 : Int) (a0_13 : Int) (r : Bool) (w : World) (hV : Vars w) (hr0_7 : Kd.C k84 w A0_7 l0_7.length l0_7) (hc0_7 : l0_7.length ≤ c0_7) (h : impl_ReaderOK.f k a0_0 a0_1 a0_2 a0_3 a0_4 a0_5 a0_6 l0_7 a0_8 a0_9 a0_10 a0_11 a0_12 a0_13 = some r) :
  Calls Tryd.prog 25 #[.agg #[.int .i64 a0_0,.int .i64 a0_1,.int .i64 a0_2,.int .i64 a0_3,.int .i64 a0_4,.int .i64 a0_5,.int .i64 a0_6,.slice A0_7 l0_7.length c0_7,.int .i64 a0_8,.int .i64 a0_9,.int .i64 a0_10,.int .i64 a0_11,.int .i64 a0_12,.int .i64 a0_13]] w fun e w' => e = .returned (.bool r) ∧ Below w.heap.size w w' := by
 have hu60 := Tryd.underlying60
 have hu49 := Tryd.underlying49
 have HR0_7 := Aside0.mk hr0_7
 have HC0_7 := Aside0.mk hc0_7
 clear hr0_7 hc0_7
 have HV := Aside0.mk hV
 clear hV
 have HB := Aside0.mk (Below.refl w.heap.size w)
 have H : ((impl_isId.f a0_0).bind fun t286 => (if t286 = true then ((impl_within.f a0_1 0 4).bind fun t287 => (if t287 = true then ((impl_isTier.f a0_2).bind fun t288 => (if t288 = true then ((impl_isRange.f a0_3 a0_4).bind fun t289 => (if t289 = true then ((impl_isUntil.f a0_5).bind fun t290 => (if t290 = true then ((impl_isCode.f a0_6).bind fun t291 => (if t291 = true then ((impl_isGot.f a0_8 a0_9 a0_10 a0_11 a0_12 a0_13).bind fun t292 => (if t292 = true then (if (l0_7.length : Int) ≤ 300 then ((impl_Entry_56.f k l0_7 a0_2).bind fun t293 => (some t293)) else (some false)) else (some false))) else (some false))) else (some false))) else (some false))) else (some false))) else (some false))) else (some false))) = some r := h
 clear h
 replace H := Option.bind_eq_some_iff.mp H
 obtain ⟨t286,A20,H⟩ := H
 try dsimp only at H
 have A2 := Aside0.mk A20
 clear A20
 by_cases c3 : t286 = true
 ·subst c3
  rw [if_pos rfl] at H
  replace H := Option.bind_eq_some_iff.mp H
  obtain ⟨t287,A40,H⟩ := H
  try dsimp only at H
  have A4 := Aside0.mk A40
  clear A40
  by_cases c5 : t287 = true
  ·subst c5
   rw [if_pos rfl] at H
   replace H := Option.bind_eq_some_iff.mp H
   obtain ⟨t288,A60,H⟩ := H
   try dsimp only at H
   have A6 := Aside0.mk A60
   clear A60
   by_cases c7 : t288 = true
   ·subst c7
    rw [if_pos rfl] at H
    replace H := Option.bind_eq_some_iff.mp H
    obtain ⟨t289,A80,H⟩ := H
    try dsimp only at H
    have A8 := Aside0.mk A80
    clear A80
    by_cases c9 : t289 = true
    ·subst c9
     rw [if_pos rfl] at H
     replace H := Option.bind_eq_some_iff.mp H
     obtain ⟨t290,A100,H⟩ := H
     try dsimp only at H
     have A10 := Aside0.mk A100
     clear A100
     by_cases c11 : t290 = true
     ·subst c11
      rw [if_pos rfl] at H
      replace H := Option.bind_eq_some_iff.mp H
      obtain ⟨t291,A120,H⟩ := H
      try dsimp only at H
      have A12 := Aside0.mk A120
      clear A120
      by_cases c13 : t291 = true
      ·subst c13
       rw [if_pos rfl] at H
       replace H := Option.bind_eq_some_iff.mp H
       obtain ⟨t292,A140,H⟩ := H
       try dsimp only at H
       have A14 := Aside0.mk A140
       clear A140
       by_cases c15 : t292 = true
       ·subst c15
        rw [if_pos rfl] at H
        by_cases c16 : (l0_7.length : Int) ≤ 300
        ·rw [if_pos c16] at H
         have c16b0 : decide ((l0_7.length : Int) ≤ 300) = true := decide_eq_true c16
         have c16b1 : decide (l0_7.length ≤ 300) = true := decide_eq_true (by omega)
         clear c16
         replace H := Option.bind_eq_some_iff.mp H
         obtain ⟨t293,A170,H⟩ := H
         try dsimp only at H
         have A17 := Aside0.mk A170
         clear A170
         obtain rfl := Option.some.inj H
         go_enter Tryd.func25,Tryd.ntmps25
         go_wp2_with (first | ((with_reducible refine gate_dst (N:=1) rfl ?_); (try (refine gate_guard (by rfl) ?_; dsimp only)); refine box_event ?hg (N:=1) ?hd (cs := #[.int .i64 a0_0,.int .i64 a0_1,.int .i64 a0_2,.int .i64 a0_3,.int .i64 a0_4,.int .i64 a0_5,.int .i64 a0_6,.slice A0_7 l0_7.length c0_7,.int .i64 a0_8,.int .i64 a0_9,.int .i64 a0_10,.int .i64 a0_11,.int .i64 a0_12,.int .i64 a0_13]) (t:=60) ?hr ?_; (case hd => rfl); (case hg => rfl); (case hr => first | (go_simp; done) | (go_simp; rfl)); intro gb285 hg w18 hbox hb; have n0_ := Aside0.mk (below_step bA hb); have n1_ := Aside0.mk (hbox); have n2_ := Aside0.mk ((by rw [hg]; exact (below_size bA) : w.heap.size ≤ gb285)); have n3_ := Aside0.mk ((by rw [hg]; exact (below_size bA) : w.heap.size ≤ gb285)); clear HB; have HB := n0_; have BK285 := n1_; have GW285 := n2_; have GE285 := n3_; clear n0_ n1_ n2_ n3_; clear hb hbox hg; have hcz19_0 : w18.cell? ⟨gb285,0,none⟩ = some (.int .i64 a0_0) := (blk_cell BK285.out 0).trans rfl; have hcz19_1 : w18.cell? ⟨gb285,1,none⟩ = some (.int .i64 a0_1) := (blk_cell BK285.out 1).trans rfl; have hcz19_2 : w18.cell? ⟨gb285,2,none⟩ = some (.int .i64 a0_2) := (blk_cell BK285.out 2).trans rfl; have hcz19_3 : w18.cell? ⟨gb285,3,none⟩ = some (.int .i64 a0_3) := (blk_cell BK285.out 3).trans rfl; have hcz19_4 : w18.cell? ⟨gb285,4,none⟩ = some (.int .i64 a0_4) := (blk_cell BK285.out 4).trans rfl; have hcz19_5 : w18.cell? ⟨gb285,5,none⟩ = some (.int .i64 a0_5) := (blk_cell BK285.out 5).trans rfl; have hcz19_6 : w18.cell? ⟨gb285,6,none⟩ = some (.int .i64 a0_6) := (blk_cell BK285.out 6).trans rfl; have hcz19_7 : w18.cell? ⟨gb285,7,none⟩ = some (.slice A0_7 l0_7.length c0_7) := (blk_cell BK285.out 7).trans rfl; have hcz19_8 : w18.cell? ⟨gb285,8,none⟩ = some (.int .i64 a0_8) := (blk_cell BK285.out 8).trans rfl; have hcz19_9 : w18.cell? ⟨gb285,9,none⟩ = some (.int .i64 a0_9) := (blk_cell BK285.out 9).trans rfl; have hcz19_10 : w18.cell? ⟨gb285,10,none⟩ = some (.int .i64 a0_10) := (blk_cell BK285.out 10).trans rfl; have hcz19_11 : w18.cell? ⟨gb285,11,none⟩ = some (.int .i64 a0_11) := (blk_cell BK285.out 11).trans rfl; have hcz19_12 : w18.cell? ⟨gb285,12,none⟩ = some (.int .i64 a0_12) := (blk_cell BK285.out 12).trans rfl; have hcz19_13 : w18.cell? ⟨gb285,13,none⟩ = some (.int .i64 a0_13) := (blk_cell BK285.out 13).trans rfl; have hfz19_0 := blk_frozen BK285.out 0; have hfz19_1 := blk_frozen BK285.out 1; have hfz19_2 := blk_frozen BK285.out 2; have hfz19_3 := blk_frozen BK285.out 3; have hfz19_4 := blk_frozen BK285.out 4; have hfz19_5 := blk_frozen BK285.out 5; have hfz19_6 := blk_frozen BK285.out 6; have hfz19_7 := blk_frozen BK285.out 7; have hfz19_8 := blk_frozen BK285.out 8; have hfz19_9 := blk_frozen BK285.out 9; have hfz19_10 := blk_frozen BK285.out 10; have hfz19_11 := blk_frozen BK285.out 11; have hfz19_12 := blk_frozen BK285.out 12; have hfz19_13 := blk_frozen BK285.out 13) | ((with_reducible refine gate_callee (f:=53) rfl ?_); refine goesL_ (some 5) rfl rfl Tryd.func53 (by kernel_rfl) rfl #[.int .i64 a0_0] rfl mA ?_; (with_reducible refine (impl_isId.calls a0_0 true _ A2.out).mono ?_); rintro e w' ⟨rfl,⟨nd,rfl⟩⟩; refine ⟨_,rfl,?_⟩) | (go_at_call 54; (with_reducible refine (impl_within.calls a0_1 0 4 true _ A4.out).mono ?_); rintro e w' ⟨rfl,⟨nd,rfl⟩⟩) | (go_at_call 64; (with_reducible refine (impl_isTier.calls a0_2 true _ A6.out).mono ?_); rintro e w' ⟨rfl,⟨nd,rfl⟩⟩) | (go_at_call 65; (with_reducible refine (impl_isRange.calls a0_3 a0_4 true _ A8.out).mono ?_); rintro e w' ⟨rfl,⟨nd,rfl⟩⟩) | (go_at_call 66; (with_reducible refine (impl_isUntil.calls a0_5 true _ A10.out).mono ?_); rintro e w' ⟨rfl,⟨nd,rfl⟩⟩) | (go_at_call 67; (with_reducible refine (impl_isCode.calls a0_6 true _ A12.out).mono ?_); rintro e w' ⟨rfl,⟨nd,rfl⟩⟩) | (go_at_call 58; (with_reducible refine (impl_isGot.calls a0_8 a0_9 a0_10 a0_11 a0_12 a0_13 true _ A14.out).mono ?_); rintro e w20 ⟨rfl,hb⟩; have n0_ := Aside0.mk (blk_below (g:=gb285) (o:=.cells #[.int .i64 a0_0,.int .i64 a0_1,.int .i64 a0_2,.int .i64 a0_3,.int .i64 a0_4,.int .i64 a0_5,.int .i64 a0_6,.slice A0_7 l0_7.length c0_7,.int .i64 a0_8,.int .i64 a0_9,.int .i64 a0_10,.int .i64 a0_11,.int .i64 a0_12,.int .i64 a0_13] 60 (0,0)) (kA BK285.out) hb); have n1_ := Aside0.mk (below_step bA hb); clear BK285; clear HB; have BK285 := n0_; have HB := n1_; clear n0_ n1_; (try clear hb); (try clear hb2); (try clear hk); (try clear hi); have hcz21_0 : w20.cell? ⟨gb285,0,none⟩ = some (.int .i64 a0_0) := (blk_cell BK285.out 0).trans rfl; have hcz21_1 : w20.cell? ⟨gb285,1,none⟩ = some (.int .i64 a0_1) := (blk_cell BK285.out 1).trans rfl; have hcz21_2 : w20.cell? ⟨gb285,2,none⟩ = some (.int .i64 a0_2) := (blk_cell BK285.out 2).trans rfl; have hcz21_3 : w20.cell? ⟨gb285,3,none⟩ = some (.int .i64 a0_3) := (blk_cell BK285.out 3).trans rfl; have hcz21_4 : w20.cell? ⟨gb285,4,none⟩ = some (.int .i64 a0_4) := (blk_cell BK285.out 4).trans rfl; have hcz21_5 : w20.cell? ⟨gb285,5,none⟩ = some (.int .i64 a0_5) := (blk_cell BK285.out 5).trans rfl; have hcz21_6 : w20.cell? ⟨gb285,6,none⟩ = some (.int .i64 a0_6) := (blk_cell BK285.out 6).trans rfl; have hcz21_7 : w20.cell? ⟨gb285,7,none⟩ = some (.slice A0_7 l0_7.length c0_7) := (blk_cell BK285.out 7).trans rfl; have hcz21_8 : w20.cell? ⟨gb285,8,none⟩ = some (.int .i64 a0_8) := (blk_cell BK285.out 8).trans rfl; have hcz21_9 : w20.cell? ⟨gb285,9,none⟩ = some (.int .i64 a0_9) := (blk_cell BK285.out 9).trans rfl; have hcz21_10 : w20.cell? ⟨gb285,10,none⟩ = some (.int .i64 a0_10) := (blk_cell BK285.out 10).trans rfl; have hcz21_11 : w20.cell? ⟨gb285,11,none⟩ = some (.int .i64 a0_11) := (blk_cell BK285.out 11).trans rfl; have hcz21_12 : w20.cell? ⟨gb285,12,none⟩ = some (.int .i64 a0_12) := (blk_cell BK285.out 12).trans rfl; have hcz21_13 : w20.cell? ⟨gb285,13,none⟩ = some (.int .i64 a0_13) := (blk_cell BK285.out 13).trans rfl; have hfz21_0 := blk_frozen BK285.out 0; have hfz21_1 := blk_frozen BK285.out 1; have hfz21_2 := blk_frozen BK285.out 2; have hfz21_3 := blk_frozen BK285.out 3; have hfz21_4 := blk_frozen BK285.out 4; have hfz21_5 := blk_frozen BK285.out 5; have hfz21_6 := blk_frozen BK285.out 6; have hfz21_7 := blk_frozen BK285.out 7; have hfz21_8 := blk_frozen BK285.out 8; have hfz21_9 := blk_frozen BK285.out 9; have hfz21_10 := blk_frozen BK285.out 10; have hfz21_11 := blk_frozen BK285.out 11; have hfz21_12 := blk_frozen BK285.out 12; have hfz21_13 := blk_frozen BK285.out 13) | (go_at_call 56; (with_reducible refine (impl_Entry_56.calls k _ _ l0_7 a0_2 gb285 t293 _ (by first | exact hcz21_2 | assumption) ?side1 ?side2 ?side3 A17.out).mono ?_); (case side1 => exact HV.out.below bA); (case side2 => repeat (first | exact (Kd.C_below HR0_7.out HB.out) | (with_reducible refine Kd.C_alloc ?_ _) | (with_reducible refine Kd.C_drewN ?_ _) | (with_reducible refine Kd.C_drew ?_))); (case side3 => exact HC0_7.out); rintro e w22 ⟨rfl,hb⟩; have n0_ := Aside0.mk (blk_below (g:=gb285) (o:=.cells #[.int .i64 a0_0,.int .i64 a0_1,.int .i64 a0_2,.int .i64 a0_3,.int .i64 a0_4,.int .i64 a0_5,.int .i64 a0_6,.slice A0_7 l0_7.length c0_7,.int .i64 a0_8,.int .i64 a0_9,.int .i64 a0_10,.int .i64 a0_11,.int .i64 a0_12,.int .i64 a0_13] 60 (0,0)) (kA BK285.out) hb); have n1_ := Aside0.mk (below_step bA hb); clear BK285; clear HB; have BK285 := n0_; have HB := n1_; clear n0_ n1_; (try clear hb); (try clear hb2); (try clear hk); (try clear hi)))
         go_ret
         exact ⟨by first | rfl | (simp [errW_none,errW_some] <;> rfl) | (simp [*,errW_none,errW_some] <;> rfl),bA⟩
        ·rw [if_neg c16] at H
         have c16b0 : decide ((l0_7.length : Int) ≤ 300) = false := decide_eq_false c16
         have c16b1 : decide (l0_7.length ≤ 300) = false := decide_eq_false (by omega)
         clear c16
         obtain rfl := Option.some.inj H
         go_enter Tryd.func25,Tryd.ntmps25
         go_wp2_with (first | ((with_reducible refine gate_dst (N:=1) rfl ?_); (try (refine gate_guard (by rfl) ?_; dsimp only)); refine box_event ?hg (N:=1) ?hd (cs := #[.int .i64 a0_0,.int .i64 a0_1,.int .i64 a0_2,.int .i64 a0_3,.int .i64 a0_4,.int .i64 a0_5,.int .i64 a0_6,.slice A0_7 l0_7.length c0_7,.int .i64 a0_8,.int .i64 a0_9,.int .i64 a0_10,.int .i64 a0_11,.int .i64 a0_12,.int .i64 a0_13]) (t:=60) ?hr ?_; (case hd => rfl); (case hg => rfl); (case hr => first | (go_simp; done) | (go_simp; rfl)); intro gb285 hg w23 hbox hb; have n0_ := Aside0.mk (below_step bA hb); have n1_ := Aside0.mk (hbox); have n2_ := Aside0.mk ((by rw [hg]; exact (below_size bA) : w.heap.size ≤ gb285)); have n3_ := Aside0.mk ((by rw [hg]; exact (below_size bA) : w.heap.size ≤ gb285)); clear HB; have HB := n0_; have BK285 := n1_; have GW285 := n2_; have GE285 := n3_; clear n0_ n1_ n2_ n3_; clear hb hbox hg; have hcz24_0 : w23.cell? ⟨gb285,0,none⟩ = some (.int .i64 a0_0) := (blk_cell BK285.out 0).trans rfl; have hcz24_1 : w23.cell? ⟨gb285,1,none⟩ = some (.int .i64 a0_1) := (blk_cell BK285.out 1).trans rfl; have hcz24_2 : w23.cell? ⟨gb285,2,none⟩ = some (.int .i64 a0_2) := (blk_cell BK285.out 2).trans rfl; have hcz24_3 : w23.cell? ⟨gb285,3,none⟩ = some (.int .i64 a0_3) := (blk_cell BK285.out 3).trans rfl; have hcz24_4 : w23.cell? ⟨gb285,4,none⟩ = some (.int .i64 a0_4) := (blk_cell BK285.out 4).trans rfl; have hcz24_5 : w23.cell? ⟨gb285,5,none⟩ = some (.int .i64 a0_5) := (blk_cell BK285.out 5).trans rfl; have hcz24_6 : w23.cell? ⟨gb285,6,none⟩ = some (.int .i64 a0_6) := (blk_cell BK285.out 6).trans rfl; have hcz24_7 : w23.cell? ⟨gb285,7,none⟩ = some (.slice A0_7 l0_7.length c0_7) := (blk_cell BK285.out 7).trans rfl; have hcz24_8 : w23.cell? ⟨gb285,8,none⟩ = some (.int .i64 a0_8) := (blk_cell BK285.out 8).trans rfl; have hcz24_9 : w23.cell? ⟨gb285,9,none⟩ = some (.int .i64 a0_9) := (blk_cell BK285.out 9).trans rfl; have hcz24_10 : w23.cell? ⟨gb285,10,none⟩ = some (.int .i64 a0_10) := (blk_cell BK285.out 10).trans rfl; have hcz24_11 : w23.cell? ⟨gb285,11,none⟩ = some (.int .i64 a0_11) := (blk_cell BK285.out 11).trans rfl; have hcz24_12 : w23.cell? ⟨gb285,12,none⟩ = some (.int .i64 a0_12) := (blk_cell BK285.out 12).trans rfl; have hcz24_13 : w23.cell? ⟨gb285,13,none⟩ = some (.int .i64 a0_13) := (blk_cell BK285.out 13).trans rfl; have hfz24_0 := blk_frozen BK285.out 0; have hfz24_1 := blk_frozen BK285.out 1; have hfz24_2 := blk_frozen BK285.out 2; have hfz24_3 := blk_frozen BK285.out 3; have hfz24_4 := blk_frozen BK285.out 4; have hfz24_5 := blk_frozen BK285.out 5; have hfz24_6 := blk_frozen BK285.out 6; have hfz24_7 := blk_frozen BK285.out 7; have hfz24_8 := blk_frozen BK285.out 8; have hfz24_9 := blk_frozen BK285.out 9; have hfz24_10 := blk_frozen BK285.out 10; have hfz24_11 := blk_frozen BK285.out 11; have hfz24_12 := blk_frozen BK285.out 12; have hfz24_13 := blk_frozen BK285.out 13) | ((with_reducible refine gate_callee (f:=53) rfl ?_); refine goesL_ (some 5) rfl rfl Tryd.func53 (by kernel_rfl) rfl #[.int .i64 a0_0] rfl mA ?_; (with_reducible refine (impl_isId.calls a0_0 true _ A2.out).mono ?_); rintro e w' ⟨rfl,⟨nd,rfl⟩⟩; refine ⟨_,rfl,?_⟩) | (go_at_call 54; (with_reducible refine (impl_within.calls a0_1 0 4 true _ A4.out).mono ?_); rintro e w' ⟨rfl,⟨nd,rfl⟩⟩) | (go_at_call 64; (with_reducible refine (impl_isTier.calls a0_2 true _ A6.out).mono ?_); rintro e w' ⟨rfl,⟨nd,rfl⟩⟩) | (go_at_call 65; (with_reducible refine (impl_isRange.calls a0_3 a0_4 true _ A8.out).mono ?_); rintro e w' ⟨rfl,⟨nd,rfl⟩⟩) | (go_at_call 66; (with_reducible refine (impl_isUntil.calls a0_5 true _ A10.out).mono ?_); rintro e w' ⟨rfl,⟨nd,rfl⟩⟩) | (go_at_call 67; (with_reducible refine (impl_isCode.calls a0_6 true _ A12.out).mono ?_); rintro e w' ⟨rfl,⟨nd,rfl⟩⟩) | (go_at_call 58; (with_reducible refine (impl_isGot.calls a0_8 a0_9 a0_10 a0_11 a0_12 a0_13 true _ A14.out).mono ?_); rintro e w25 ⟨rfl,hb⟩; have n0_ := Aside0.mk (blk_below (g:=gb285) (o:=.cells #[.int .i64 a0_0,.int .i64 a0_1,.int .i64 a0_2,.int .i64 a0_3,.int .i64 a0_4,.int .i64 a0_5,.int .i64 a0_6,.slice A0_7 l0_7.length c0_7,.int .i64 a0_8,.int .i64 a0_9,.int .i64 a0_10,.int .i64 a0_11,.int .i64 a0_12,.int .i64 a0_13] 60 (0,0)) (kA BK285.out) hb); have n1_ := Aside0.mk (below_step bA hb); clear BK285; clear HB; have BK285 := n0_; have HB := n1_; clear n0_ n1_; (try clear hb); (try clear hb2); (try clear hk); (try clear hi); have hcz26_0 : w25.cell? ⟨gb285,0,none⟩ = some (.int .i64 a0_0) := (blk_cell BK285.out 0).trans rfl; have hcz26_1 : w25.cell? ⟨gb285,1,none⟩ = some (.int .i64 a0_1) := (blk_cell BK285.out 1).trans rfl; have hcz26_2 : w25.cell? ⟨gb285,2,none⟩ = some (.int .i64 a0_2) := (blk_cell BK285.out 2).trans rfl; have hcz26_3 : w25.cell? ⟨gb285,3,none⟩ = some (.int .i64 a0_3) := (blk_cell BK285.out 3).trans rfl; have hcz26_4 : w25.cell? ⟨gb285,4,none⟩ = some (.int .i64 a0_4) := (blk_cell BK285.out 4).trans rfl; have hcz26_5 : w25.cell? ⟨gb285,5,none⟩ = some (.int .i64 a0_5) := (blk_cell BK285.out 5).trans rfl; have hcz26_6 : w25.cell? ⟨gb285,6,none⟩ = some (.int .i64 a0_6) := (blk_cell BK285.out 6).trans rfl; have hcz26_7 : w25.cell? ⟨gb285,7,none⟩ = some (.slice A0_7 l0_7.length c0_7) := (blk_cell BK285.out 7).trans rfl; have hcz26_8 : w25.cell? ⟨gb285,8,none⟩ = some (.int .i64 a0_8) := (blk_cell BK285.out 8).trans rfl; have hcz26_9 : w25.cell? ⟨gb285,9,none⟩ = some (.int .i64 a0_9) := (blk_cell BK285.out 9).trans rfl; have hcz26_10 : w25.cell? ⟨gb285,10,none⟩ = some (.int .i64 a0_10) := (blk_cell BK285.out 10).trans rfl; have hcz26_11 : w25.cell? ⟨gb285,11,none⟩ = some (.int .i64 a0_11) := (blk_cell BK285.out 11).trans rfl; have hcz26_12 : w25.cell? ⟨gb285,12,none⟩ = some (.int .i64 a0_12) := (blk_cell BK285.out 12).trans rfl; have hcz26_13 : w25.cell? ⟨gb285,13,none⟩ = some (.int .i64 a0_13) := (blk_cell BK285.out 13).trans rfl; have hfz26_0 := blk_frozen BK285.out 0; have hfz26_1 := blk_frozen BK285.out 1; have hfz26_2 := blk_frozen BK285.out 2; have hfz26_3 := blk_frozen BK285.out 3; have hfz26_4 := blk_frozen BK285.out 4; have hfz26_5 := blk_frozen BK285.out 5; have hfz26_6 := blk_frozen BK285.out 6; have hfz26_7 := blk_frozen BK285.out 7; have hfz26_8 := blk_frozen BK285.out 8; have hfz26_9 := blk_frozen BK285.out 9; have hfz26_10 := blk_frozen BK285.out 10; have hfz26_11 := blk_frozen BK285.out 11; have hfz26_12 := blk_frozen BK285.out 12; have hfz26_13 := blk_frozen BK285.out 13))
         go_ret
         exact ⟨by first | rfl | (simp [errW_none,errW_some] <;> rfl) | (simp [*,errW_none,errW_some] <;> rfl),bA⟩
       ·replace c15 := Bool.eq_false_iff.mpr c15
        subst c15
        rw [if_neg (show ¬ (false = true) by decide)] at H
        obtain rfl := Option.some.inj H
        go_enter Tryd.func25,Tryd.ntmps25
        go_wp2_with (first | ((with_reducible refine gate_dst (N:=1) rfl ?_); (try (refine gate_guard (by rfl) ?_; dsimp only)); refine box_event ?hg (N:=1) ?hd (cs := #[.int .i64 a0_0,.int .i64 a0_1,.int .i64 a0_2,.int .i64 a0_3,.int .i64 a0_4,.int .i64 a0_5,.int .i64 a0_6,.slice A0_7 l0_7.length c0_7,.int .i64 a0_8,.int .i64 a0_9,.int .i64 a0_10,.int .i64 a0_11,.int .i64 a0_12,.int .i64 a0_13]) (t:=60) ?hr ?_; (case hd => rfl); (case hg => rfl); (case hr => first | (go_simp; done) | (go_simp; rfl)); intro gb285 hg w27 hbox hb; have n0_ := Aside0.mk (below_step bA hb); have n1_ := Aside0.mk (hbox); have n2_ := Aside0.mk ((by rw [hg]; exact (below_size bA) : w.heap.size ≤ gb285)); have n3_ := Aside0.mk ((by rw [hg]; exact (below_size bA) : w.heap.size ≤ gb285)); clear HB; have HB := n0_; have BK285 := n1_; have GW285 := n2_; have GE285 := n3_; clear n0_ n1_ n2_ n3_; clear hb hbox hg; have hcz28_0 : w27.cell? ⟨gb285,0,none⟩ = some (.int .i64 a0_0) := (blk_cell BK285.out 0).trans rfl; have hcz28_1 : w27.cell? ⟨gb285,1,none⟩ = some (.int .i64 a0_1) := (blk_cell BK285.out 1).trans rfl; have hcz28_2 : w27.cell? ⟨gb285,2,none⟩ = some (.int .i64 a0_2) := (blk_cell BK285.out 2).trans rfl; have hcz28_3 : w27.cell? ⟨gb285,3,none⟩ = some (.int .i64 a0_3) := (blk_cell BK285.out 3).trans rfl; have hcz28_4 : w27.cell? ⟨gb285,4,none⟩ = some (.int .i64 a0_4) := (blk_cell BK285.out 4).trans rfl; have hcz28_5 : w27.cell? ⟨gb285,5,none⟩ = some (.int .i64 a0_5) := (blk_cell BK285.out 5).trans rfl; have hcz28_6 : w27.cell? ⟨gb285,6,none⟩ = some (.int .i64 a0_6) := (blk_cell BK285.out 6).trans rfl; have hcz28_7 : w27.cell? ⟨gb285,7,none⟩ = some (.slice A0_7 l0_7.length c0_7) := (blk_cell BK285.out 7).trans rfl; have hcz28_8 : w27.cell? ⟨gb285,8,none⟩ = some (.int .i64 a0_8) := (blk_cell BK285.out 8).trans rfl; have hcz28_9 : w27.cell? ⟨gb285,9,none⟩ = some (.int .i64 a0_9) := (blk_cell BK285.out 9).trans rfl; have hcz28_10 : w27.cell? ⟨gb285,10,none⟩ = some (.int .i64 a0_10) := (blk_cell BK285.out 10).trans rfl; have hcz28_11 : w27.cell? ⟨gb285,11,none⟩ = some (.int .i64 a0_11) := (blk_cell BK285.out 11).trans rfl; have hcz28_12 : w27.cell? ⟨gb285,12,none⟩ = some (.int .i64 a0_12) := (blk_cell BK285.out 12).trans rfl; have hcz28_13 : w27.cell? ⟨gb285,13,none⟩ = some (.int .i64 a0_13) := (blk_cell BK285.out 13).trans rfl; have hfz28_0 := blk_frozen BK285.out 0; have hfz28_1 := blk_frozen BK285.out 1; have hfz28_2 := blk_frozen BK285.out 2; have hfz28_3 := blk_frozen BK285.out 3; have hfz28_4 := blk_frozen BK285.out 4; have hfz28_5 := blk_frozen BK285.out 5; have hfz28_6 := blk_frozen BK285.out 6; have hfz28_7 := blk_frozen BK285.out 7; have hfz28_8 := blk_frozen BK285.out 8; have hfz28_9 := blk_frozen BK285.out 9; have hfz28_10 := blk_frozen BK285.out 10; have hfz28_11 := blk_frozen BK285.out 11; have hfz28_12 := blk_frozen BK285.out 12; have hfz28_13 := blk_frozen BK285.out 13) | ((with_reducible refine gate_callee (f:=53) rfl ?_); refine goesL_ (some 5) rfl rfl Tryd.func53 (by kernel_rfl) rfl #[.int .i64 a0_0] rfl mA ?_; (with_reducible refine (impl_isId.calls a0_0 true _ A2.out).mono ?_); rintro e w' ⟨rfl,⟨nd,rfl⟩⟩; refine ⟨_,rfl,?_⟩) | (go_at_call 54; (with_reducible refine (impl_within.calls a0_1 0 4 true _ A4.out).mono ?_); rintro e w' ⟨rfl,⟨nd,rfl⟩⟩) | (go_at_call 64; (with_reducible refine (impl_isTier.calls a0_2 true _ A6.out).mono ?_); rintro e w' ⟨rfl,⟨nd,rfl⟩⟩) | (go_at_call 65; (with_reducible refine (impl_isRange.calls a0_3 a0_4 true _ A8.out).mono ?_); rintro e w' ⟨rfl,⟨nd,rfl⟩⟩) | (go_at_call 66; (with_reducible refine (impl_isUntil.calls a0_5 true _ A10.out).mono ?_); rintro e w' ⟨rfl,⟨nd,rfl⟩⟩) | (go_at_call 67; (with_reducible refine (impl_isCode.calls a0_6 true _ A12.out).mono ?_); rintro e w' ⟨rfl,⟨nd,rfl⟩⟩) | (go_at_call 58; (with_reducible refine (impl_isGot.calls a0_8 a0_9 a0_10 a0_11 a0_12 a0_13 false _ A14.out).mono ?_); rintro e w29 ⟨rfl,hb⟩; have n0_ := Aside0.mk (blk_below (g:=gb285) (o:=.cells #[.int .i64 a0_0,.int .i64 a0_1,.int .i64 a0_2,.int .i64 a0_3,.int .i64 a0_4,.int .i64 a0_5,.int .i64 a0_6,.slice A0_7 l0_7.length c0_7,.int .i64 a0_8,.int .i64 a0_9,.int .i64 a0_10,.int .i64 a0_11,.int .i64 a0_12,.int .i64 a0_13] 60 (0,0)) (kA BK285.out) hb); have n1_ := Aside0.mk (below_step bA hb); clear BK285; clear HB; have BK285 := n0_; have HB := n1_; clear n0_ n1_; (try clear hb); (try clear hb2); (try clear hk); (try clear hi)))
        go_ret
        exact ⟨by first | rfl | (simp [errW_none,errW_some] <;> rfl) | (simp [*,errW_none,errW_some] <;> rfl),bA⟩
      ·replace c13 := Bool.eq_false_iff.mpr c13
       subst c13
       rw [if_neg (show ¬ (false = true) by decide)] at H
       obtain rfl := Option.some.inj H
       go_enter Tryd.func25,Tryd.ntmps25
       go_wp2_with (first | ((with_reducible refine gate_dst (N:=1) rfl ?_); (try (refine gate_guard (by rfl) ?_; dsimp only)); refine box_event ?hg (N:=1) ?hd (cs := #[.int .i64 a0_0,.int .i64 a0_1,.int .i64 a0_2,.int .i64 a0_3,.int .i64 a0_4,.int .i64 a0_5,.int .i64 a0_6,.slice A0_7 l0_7.length c0_7,.int .i64 a0_8,.int .i64 a0_9,.int .i64 a0_10,.int .i64 a0_11,.int .i64 a0_12,.int .i64 a0_13]) (t:=60) ?hr ?_; (case hd => rfl); (case hg => rfl); (case hr => first | (go_simp; done) | (go_simp; rfl)); intro gb285 hg w30 hbox hb; have n0_ := Aside0.mk (below_step bA hb); have n1_ := Aside0.mk (hbox); have n2_ := Aside0.mk ((by rw [hg]; exact (below_size bA) : w.heap.size ≤ gb285)); have n3_ := Aside0.mk ((by rw [hg]; exact (below_size bA) : w.heap.size ≤ gb285)); clear HB; have HB := n0_; have BK285 := n1_; have GW285 := n2_; have GE285 := n3_; clear n0_ n1_ n2_ n3_; clear hb hbox hg; have hcz31_0 : w30.cell? ⟨gb285,0,none⟩ = some (.int .i64 a0_0) := (blk_cell BK285.out 0).trans rfl; have hcz31_1 : w30.cell? ⟨gb285,1,none⟩ = some (.int .i64 a0_1) := (blk_cell BK285.out 1).trans rfl; have hcz31_2 : w30.cell? ⟨gb285,2,none⟩ = some (.int .i64 a0_2) := (blk_cell BK285.out 2).trans rfl; have hcz31_3 : w30.cell? ⟨gb285,3,none⟩ = some (.int .i64 a0_3) := (blk_cell BK285.out 3).trans rfl; have hcz31_4 : w30.cell? ⟨gb285,4,none⟩ = some (.int .i64 a0_4) := (blk_cell BK285.out 4).trans rfl; have hcz31_5 : w30.cell? ⟨gb285,5,none⟩ = some (.int .i64 a0_5) := (blk_cell BK285.out 5).trans rfl; have hcz31_6 : w30.cell? ⟨gb285,6,none⟩ = some (.int .i64 a0_6) := (blk_cell BK285.out 6).trans rfl; have hcz31_7 : w30.cell? ⟨gb285,7,none⟩ = some (.slice A0_7 l0_7.length c0_7) := (blk_cell BK285.out 7).trans rfl; have hcz31_8 : w30.cell? ⟨gb285,8,none⟩ = some (.int .i64 a0_8) := (blk_cell BK285.out 8).trans rfl; have hcz31_9 : w30.cell? ⟨gb285,9,none⟩ = some (.int .i64 a0_9) := (blk_cell BK285.out 9).trans rfl; have hcz31_10 : w30.cell? ⟨gb285,10,none⟩ = some (.int .i64 a0_10) := (blk_cell BK285.out 10).trans rfl; have hcz31_11 : w30.cell? ⟨gb285,11,none⟩ = some (.int .i64 a0_11) := (blk_cell BK285.out 11).trans rfl; have hcz31_12 : w30.cell? ⟨gb285,12,none⟩ = some (.int .i64 a0_12) := (blk_cell BK285.out 12).trans rfl; have hcz31_13 : w30.cell? ⟨gb285,13,none⟩ = some (.int .i64 a0_13) := (blk_cell BK285.out 13).trans rfl; have hfz31_0 := blk_frozen BK285.out 0; have hfz31_1 := blk_frozen BK285.out 1; have hfz31_2 := blk_frozen BK285.out 2; have hfz31_3 := blk_frozen BK285.out 3; have hfz31_4 := blk_frozen BK285.out 4; have hfz31_5 := blk_frozen BK285.out 5; have hfz31_6 := blk_frozen BK285.out 6; have hfz31_7 := blk_frozen BK285.out 7; have hfz31_8 := blk_frozen BK285.out 8; have hfz31_9 := blk_frozen BK285.out 9; have hfz31_10 := blk_frozen BK285.out 10; have hfz31_11 := blk_frozen BK285.out 11; have hfz31_12 := blk_frozen BK285.out 12; have hfz31_13 := blk_frozen BK285.out 13) | ((with_reducible refine gate_callee (f:=53) rfl ?_); refine goesL_ (some 5) rfl rfl Tryd.func53 (by kernel_rfl) rfl #[.int .i64 a0_0] rfl mA ?_; (with_reducible refine (impl_isId.calls a0_0 true _ A2.out).mono ?_); rintro e w' ⟨rfl,⟨nd,rfl⟩⟩; refine ⟨_,rfl,?_⟩) | (go_at_call 54; (with_reducible refine (impl_within.calls a0_1 0 4 true _ A4.out).mono ?_); rintro e w' ⟨rfl,⟨nd,rfl⟩⟩) | (go_at_call 64; (with_reducible refine (impl_isTier.calls a0_2 true _ A6.out).mono ?_); rintro e w' ⟨rfl,⟨nd,rfl⟩⟩) | (go_at_call 65; (with_reducible refine (impl_isRange.calls a0_3 a0_4 true _ A8.out).mono ?_); rintro e w' ⟨rfl,⟨nd,rfl⟩⟩) | (go_at_call 66; (with_reducible refine (impl_isUntil.calls a0_5 true _ A10.out).mono ?_); rintro e w' ⟨rfl,⟨nd,rfl⟩⟩) | (go_at_call 67; (with_reducible refine (impl_isCode.calls a0_6 false _ A12.out).mono ?_); rintro e w' ⟨rfl,⟨nd,rfl⟩⟩))
       go_ret
       exact ⟨by first | rfl | (simp [errW_none,errW_some] <;> rfl) | (simp [*,errW_none,errW_some] <;> rfl),bA⟩
     ·replace c11 := Bool.eq_false_iff.mpr c11
      subst c11
      rw [if_neg (show ¬ (false = true) by decide)] at H
      obtain rfl := Option.some.inj H
      go_enter Tryd.func25,Tryd.ntmps25
      go_wp2_with (first | ((with_reducible refine gate_dst (N:=1) rfl ?_); (try (refine gate_guard (by rfl) ?_; dsimp only)); refine box_event ?hg (N:=1) ?hd (cs := #[.int .i64 a0_0,.int .i64 a0_1,.int .i64 a0_2,.int .i64 a0_3,.int .i64 a0_4,.int .i64 a0_5,.int .i64 a0_6,.slice A0_7 l0_7.length c0_7,.int .i64 a0_8,.int .i64 a0_9,.int .i64 a0_10,.int .i64 a0_11,.int .i64 a0_12,.int .i64 a0_13]) (t:=60) ?hr ?_; (case hd => rfl); (case hg => rfl); (case hr => first | (go_simp; done) | (go_simp; rfl)); intro gb285 hg w32 hbox hb; have n0_ := Aside0.mk (below_step bA hb); have n1_ := Aside0.mk (hbox); have n2_ := Aside0.mk ((by rw [hg]; exact (below_size bA) : w.heap.size ≤ gb285)); have n3_ := Aside0.mk ((by rw [hg]; exact (below_size bA) : w.heap.size ≤ gb285)); clear HB; have HB := n0_; have BK285 := n1_; have GW285 := n2_; have GE285 := n3_; clear n0_ n1_ n2_ n3_; clear hb hbox hg; have hcz33_0 : w32.cell? ⟨gb285,0,none⟩ = some (.int .i64 a0_0) := (blk_cell BK285.out 0).trans rfl; have hcz33_1 : w32.cell? ⟨gb285,1,none⟩ = some (.int .i64 a0_1) := (blk_cell BK285.out 1).trans rfl; have hcz33_2 : w32.cell? ⟨gb285,2,none⟩ = some (.int .i64 a0_2) := (blk_cell BK285.out 2).trans rfl; have hcz33_3 : w32.cell? ⟨gb285,3,none⟩ = some (.int .i64 a0_3) := (blk_cell BK285.out 3).trans rfl; have hcz33_4 : w32.cell? ⟨gb285,4,none⟩ = some (.int .i64 a0_4) := (blk_cell BK285.out 4).trans rfl; have hcz33_5 : w32.cell? ⟨gb285,5,none⟩ = some (.int .i64 a0_5) := (blk_cell BK285.out 5).trans rfl; have hcz33_6 : w32.cell? ⟨gb285,6,none⟩ = some (.int .i64 a0_6) := (blk_cell BK285.out 6).trans rfl; have hcz33_7 : w32.cell? ⟨gb285,7,none⟩ = some (.slice A0_7 l0_7.length c0_7) := (blk_cell BK285.out 7).trans rfl; have hcz33_8 : w32.cell? ⟨gb285,8,none⟩ = some (.int .i64 a0_8) := (blk_cell BK285.out 8).trans rfl; have hcz33_9 : w32.cell? ⟨gb285,9,none⟩ = some (.int .i64 a0_9) := (blk_cell BK285.out 9).trans rfl; have hcz33_10 : w32.cell? ⟨gb285,10,none⟩ = some (.int .i64 a0_10) := (blk_cell BK285.out 10).trans rfl; have hcz33_11 : w32.cell? ⟨gb285,11,none⟩ = some (.int .i64 a0_11) := (blk_cell BK285.out 11).trans rfl; have hcz33_12 : w32.cell? ⟨gb285,12,none⟩ = some (.int .i64 a0_12) := (blk_cell BK285.out 12).trans rfl; have hcz33_13 : w32.cell? ⟨gb285,13,none⟩ = some (.int .i64 a0_13) := (blk_cell BK285.out 13).trans rfl; have hfz33_0 := blk_frozen BK285.out 0; have hfz33_1 := blk_frozen BK285.out 1; have hfz33_2 := blk_frozen BK285.out 2; have hfz33_3 := blk_frozen BK285.out 3; have hfz33_4 := blk_frozen BK285.out 4; have hfz33_5 := blk_frozen BK285.out 5; have hfz33_6 := blk_frozen BK285.out 6; have hfz33_7 := blk_frozen BK285.out 7; have hfz33_8 := blk_frozen BK285.out 8; have hfz33_9 := blk_frozen BK285.out 9; have hfz33_10 := blk_frozen BK285.out 10; have hfz33_11 := blk_frozen BK285.out 11; have hfz33_12 := blk_frozen BK285.out 12; have hfz33_13 := blk_frozen BK285.out 13) | ((with_reducible refine gate_callee (f:=53) rfl ?_); refine goesL_ (some 5) rfl rfl Tryd.func53 (by kernel_rfl) rfl #[.int .i64 a0_0] rfl mA ?_; (with_reducible refine (impl_isId.calls a0_0 true _ A2.out).mono ?_); rintro e w' ⟨rfl,⟨nd,rfl⟩⟩; refine ⟨_,rfl,?_⟩) | (go_at_call 54; (with_reducible refine (impl_within.calls a0_1 0 4 true _ A4.out).mono ?_); rintro e w' ⟨rfl,⟨nd,rfl⟩⟩) | (go_at_call 64; (with_reducible refine (impl_isTier.calls a0_2 true _ A6.out).mono ?_); rintro e w' ⟨rfl,⟨nd,rfl⟩⟩) | (go_at_call 65; (with_reducible refine (impl_isRange.calls a0_3 a0_4 true _ A8.out).mono ?_); rintro e w' ⟨rfl,⟨nd,rfl⟩⟩) | (go_at_call 66; (with_reducible refine (impl_isUntil.calls a0_5 false _ A10.out).mono ?_); rintro e w' ⟨rfl,⟨nd,rfl⟩⟩))
      go_ret
      exact ⟨by first | rfl | (simp [errW_none,errW_some] <;> rfl) | (simp [*,errW_none,errW_some] <;> rfl),bA⟩
    ·replace c9 := Bool.eq_false_iff.mpr c9
     subst c9
     rw [if_neg (show ¬ (false = true) by decide)] at H
     obtain rfl := Option.some.inj H
     go_enter Tryd.func25,Tryd.ntmps25
     go_wp2_with (first | ((with_reducible refine gate_dst (N:=1) rfl ?_); (try (refine gate_guard (by rfl) ?_; dsimp only)); refine box_event ?hg (N:=1) ?hd (cs := #[.int .i64 a0_0,.int .i64 a0_1,.int .i64 a0_2,.int .i64 a0_3,.int .i64 a0_4,.int .i64 a0_5,.int .i64 a0_6,.slice A0_7 l0_7.length c0_7,.int .i64 a0_8,.int .i64 a0_9,.int .i64 a0_10,.int .i64 a0_11,.int .i64 a0_12,.int .i64 a0_13]) (t:=60) ?hr ?_; (case hd => rfl); (case hg => rfl); (case hr => first | (go_simp; done) | (go_simp; rfl)); intro gb285 hg w34 hbox hb; have n0_ := Aside0.mk (below_step bA hb); have n1_ := Aside0.mk (hbox); have n2_ := Aside0.mk ((by rw [hg]; exact (below_size bA) : w.heap.size ≤ gb285)); have n3_ := Aside0.mk ((by rw [hg]; exact (below_size bA) : w.heap.size ≤ gb285)); clear HB; have HB := n0_; have BK285 := n1_; have GW285 := n2_; have GE285 := n3_; clear n0_ n1_ n2_ n3_; clear hb hbox hg; have hcz35_0 : w34.cell? ⟨gb285,0,none⟩ = some (.int .i64 a0_0) := (blk_cell BK285.out 0).trans rfl; have hcz35_1 : w34.cell? ⟨gb285,1,none⟩ = some (.int .i64 a0_1) := (blk_cell BK285.out 1).trans rfl; have hcz35_2 : w34.cell? ⟨gb285,2,none⟩ = some (.int .i64 a0_2) := (blk_cell BK285.out 2).trans rfl; have hcz35_3 : w34.cell? ⟨gb285,3,none⟩ = some (.int .i64 a0_3) := (blk_cell BK285.out 3).trans rfl; have hcz35_4 : w34.cell? ⟨gb285,4,none⟩ = some (.int .i64 a0_4) := (blk_cell BK285.out 4).trans rfl; have hcz35_5 : w34.cell? ⟨gb285,5,none⟩ = some (.int .i64 a0_5) := (blk_cell BK285.out 5).trans rfl; have hcz35_6 : w34.cell? ⟨gb285,6,none⟩ = some (.int .i64 a0_6) := (blk_cell BK285.out 6).trans rfl; have hcz35_7 : w34.cell? ⟨gb285,7,none⟩ = some (.slice A0_7 l0_7.length c0_7) := (blk_cell BK285.out 7).trans rfl; have hcz35_8 : w34.cell? ⟨gb285,8,none⟩ = some (.int .i64 a0_8) := (blk_cell BK285.out 8).trans rfl; have hcz35_9 : w34.cell? ⟨gb285,9,none⟩ = some (.int .i64 a0_9) := (blk_cell BK285.out 9).trans rfl; have hcz35_10 : w34.cell? ⟨gb285,10,none⟩ = some (.int .i64 a0_10) := (blk_cell BK285.out 10).trans rfl; have hcz35_11 : w34.cell? ⟨gb285,11,none⟩ = some (.int .i64 a0_11) := (blk_cell BK285.out 11).trans rfl; have hcz35_12 : w34.cell? ⟨gb285,12,none⟩ = some (.int .i64 a0_12) := (blk_cell BK285.out 12).trans rfl; have hcz35_13 : w34.cell? ⟨gb285,13,none⟩ = some (.int .i64 a0_13) := (blk_cell BK285.out 13).trans rfl; have hfz35_0 := blk_frozen BK285.out 0; have hfz35_1 := blk_frozen BK285.out 1; have hfz35_2 := blk_frozen BK285.out 2; have hfz35_3 := blk_frozen BK285.out 3; have hfz35_4 := blk_frozen BK285.out 4; have hfz35_5 := blk_frozen BK285.out 5; have hfz35_6 := blk_frozen BK285.out 6; have hfz35_7 := blk_frozen BK285.out 7; have hfz35_8 := blk_frozen BK285.out 8; have hfz35_9 := blk_frozen BK285.out 9; have hfz35_10 := blk_frozen BK285.out 10; have hfz35_11 := blk_frozen BK285.out 11; have hfz35_12 := blk_frozen BK285.out 12; have hfz35_13 := blk_frozen BK285.out 13) | ((with_reducible refine gate_callee (f:=53) rfl ?_); refine goesL_ (some 5) rfl rfl Tryd.func53 (by kernel_rfl) rfl #[.int .i64 a0_0] rfl mA ?_; (with_reducible refine (impl_isId.calls a0_0 true _ A2.out).mono ?_); rintro e w' ⟨rfl,⟨nd,rfl⟩⟩; refine ⟨_,rfl,?_⟩) | (go_at_call 54; (with_reducible refine (impl_within.calls a0_1 0 4 true _ A4.out).mono ?_); rintro e w' ⟨rfl,⟨nd,rfl⟩⟩) | (go_at_call 64; (with_reducible refine (impl_isTier.calls a0_2 true _ A6.out).mono ?_); rintro e w' ⟨rfl,⟨nd,rfl⟩⟩) | (go_at_call 65; (with_reducible refine (impl_isRange.calls a0_3 a0_4 false _ A8.out).mono ?_); rintro e w' ⟨rfl,⟨nd,rfl⟩⟩))
     go_ret
     exact ⟨by first | rfl | (simp [errW_none,errW_some] <;> rfl) | (simp [*,errW_none,errW_some] <;> rfl),bA⟩
   ·replace c7 := Bool.eq_false_iff.mpr c7
    subst c7
    rw [if_neg (show ¬ (false = true) by decide)] at H
    obtain rfl := Option.some.inj H
    go_enter Tryd.func25,Tryd.ntmps25
    go_wp2_with (first | ((with_reducible refine gate_dst (N:=1) rfl ?_); (try (refine gate_guard (by rfl) ?_; dsimp only)); refine box_event ?hg (N:=1) ?hd (cs := #[.int .i64 a0_0,.int .i64 a0_1,.int .i64 a0_2,.int .i64 a0_3,.int .i64 a0_4,.int .i64 a0_5,.int .i64 a0_6,.slice A0_7 l0_7.length c0_7,.int .i64 a0_8,.int .i64 a0_9,.int .i64 a0_10,.int .i64 a0_11,.int .i64 a0_12,.int .i64 a0_13]) (t:=60) ?hr ?_; (case hd => rfl); (case hg => rfl); (case hr => first | (go_simp; done) | (go_simp; rfl)); intro gb285 hg w36 hbox hb; have n0_ := Aside0.mk (below_step bA hb); have n1_ := Aside0.mk (hbox); have n2_ := Aside0.mk ((by rw [hg]; exact (below_size bA) : w.heap.size ≤ gb285)); have n3_ := Aside0.mk ((by rw [hg]; exact (below_size bA) : w.heap.size ≤ gb285)); clear HB; have HB := n0_; have BK285 := n1_; have GW285 := n2_; have GE285 := n3_; clear n0_ n1_ n2_ n3_; clear hb hbox hg; have hcz37_0 : w36.cell? ⟨gb285,0,none⟩ = some (.int .i64 a0_0) := (blk_cell BK285.out 0).trans rfl; have hcz37_1 : w36.cell? ⟨gb285,1,none⟩ = some (.int .i64 a0_1) := (blk_cell BK285.out 1).trans rfl; have hcz37_2 : w36.cell? ⟨gb285,2,none⟩ = some (.int .i64 a0_2) := (blk_cell BK285.out 2).trans rfl; have hcz37_3 : w36.cell? ⟨gb285,3,none⟩ = some (.int .i64 a0_3) := (blk_cell BK285.out 3).trans rfl; have hcz37_4 : w36.cell? ⟨gb285,4,none⟩ = some (.int .i64 a0_4) := (blk_cell BK285.out 4).trans rfl; have hcz37_5 : w36.cell? ⟨gb285,5,none⟩ = some (.int .i64 a0_5) := (blk_cell BK285.out 5).trans rfl; have hcz37_6 : w36.cell? ⟨gb285,6,none⟩ = some (.int .i64 a0_6) := (blk_cell BK285.out 6).trans rfl; have hcz37_7 : w36.cell? ⟨gb285,7,none⟩ = some (.slice A0_7 l0_7.length c0_7) := (blk_cell BK285.out 7).trans rfl; have hcz37_8 : w36.cell? ⟨gb285,8,none⟩ = some (.int .i64 a0_8) := (blk_cell BK285.out 8).trans rfl; have hcz37_9 : w36.cell? ⟨gb285,9,none⟩ = some (.int .i64 a0_9) := (blk_cell BK285.out 9).trans rfl; have hcz37_10 : w36.cell? ⟨gb285,10,none⟩ = some (.int .i64 a0_10) := (blk_cell BK285.out 10).trans rfl; have hcz37_11 : w36.cell? ⟨gb285,11,none⟩ = some (.int .i64 a0_11) := (blk_cell BK285.out 11).trans rfl; have hcz37_12 : w36.cell? ⟨gb285,12,none⟩ = some (.int .i64 a0_12) := (blk_cell BK285.out 12).trans rfl; have hcz37_13 : w36.cell? ⟨gb285,13,none⟩ = some (.int .i64 a0_13) := (blk_cell BK285.out 13).trans rfl; have hfz37_0 := blk_frozen BK285.out 0; have hfz37_1 := blk_frozen BK285.out 1; have hfz37_2 := blk_frozen BK285.out 2; have hfz37_3 := blk_frozen BK285.out 3; have hfz37_4 := blk_frozen BK285.out 4; have hfz37_5 := blk_frozen BK285.out 5; have hfz37_6 := blk_frozen BK285.out 6; have hfz37_7 := blk_frozen BK285.out 7; have hfz37_8 := blk_frozen BK285.out 8; have hfz37_9 := blk_frozen BK285.out 9; have hfz37_10 := blk_frozen BK285.out 10; have hfz37_11 := blk_frozen BK285.out 11; have hfz37_12 := blk_frozen BK285.out 12; have hfz37_13 := blk_frozen BK285.out 13) | ((with_reducible refine gate_callee (f:=53) rfl ?_); refine goesL_ (some 5) rfl rfl Tryd.func53 (by kernel_rfl) rfl #[.int .i64 a0_0] rfl mA ?_; (with_reducible refine (impl_isId.calls a0_0 true _ A2.out).mono ?_); rintro e w' ⟨rfl,⟨nd,rfl⟩⟩; refine ⟨_,rfl,?_⟩) | (go_at_call 54; (with_reducible refine (impl_within.calls a0_1 0 4 true _ A4.out).mono ?_); rintro e w' ⟨rfl,⟨nd,rfl⟩⟩) | (go_at_call 64; (with_reducible refine (impl_isTier.calls a0_2 false _ A6.out).mono ?_); rintro e w' ⟨rfl,⟨nd,rfl⟩⟩))
    go_ret
    exact ⟨by first | rfl | (simp [errW_none,errW_some] <;> rfl) | (simp [*,errW_none,errW_some] <;> rfl),bA⟩
  ·replace c5 := Bool.eq_false_iff.mpr c5
   subst c5
   rw [if_neg (show ¬ (false = true) by decide)] at H
   obtain rfl := Option.some.inj H
   go_enter Tryd.func25,Tryd.ntmps25
   go_wp2_with (first | ((with_reducible refine gate_dst (N:=1) rfl ?_); (try (refine gate_guard (by rfl) ?_; dsimp only)); refine box_event ?hg (N:=1) ?hd (cs := #[.int .i64 a0_0,.int .i64 a0_1,.int .i64 a0_2,.int .i64 a0_3,.int .i64 a0_4,.int .i64 a0_5,.int .i64 a0_6,.slice A0_7 l0_7.length c0_7,.int .i64 a0_8,.int .i64 a0_9,.int .i64 a0_10,.int .i64 a0_11,.int .i64 a0_12,.int .i64 a0_13]) (t:=60) ?hr ?_; (case hd => rfl); (case hg => rfl); (case hr => first | (go_simp; done) | (go_simp; rfl)); intro gb285 hg w38 hbox hb; have n0_ := Aside0.mk (below_step bA hb); have n1_ := Aside0.mk (hbox); have n2_ := Aside0.mk ((by rw [hg]; exact (below_size bA) : w.heap.size ≤ gb285)); have n3_ := Aside0.mk ((by rw [hg]; exact (below_size bA) : w.heap.size ≤ gb285)); clear HB; have HB := n0_; have BK285 := n1_; have GW285 := n2_; have GE285 := n3_; clear n0_ n1_ n2_ n3_; clear hb hbox hg; have hcz39_0 : w38.cell? ⟨gb285,0,none⟩ = some (.int .i64 a0_0) := (blk_cell BK285.out 0).trans rfl; have hcz39_1 : w38.cell? ⟨gb285,1,none⟩ = some (.int .i64 a0_1) := (blk_cell BK285.out 1).trans rfl; have hcz39_2 : w38.cell? ⟨gb285,2,none⟩ = some (.int .i64 a0_2) := (blk_cell BK285.out 2).trans rfl; have hcz39_3 : w38.cell? ⟨gb285,3,none⟩ = some (.int .i64 a0_3) := (blk_cell BK285.out 3).trans rfl; have hcz39_4 : w38.cell? ⟨gb285,4,none⟩ = some (.int .i64 a0_4) := (blk_cell BK285.out 4).trans rfl; have hcz39_5 : w38.cell? ⟨gb285,5,none⟩ = some (.int .i64 a0_5) := (blk_cell BK285.out 5).trans rfl; have hcz39_6 : w38.cell? ⟨gb285,6,none⟩ = some (.int .i64 a0_6) := (blk_cell BK285.out 6).trans rfl; have hcz39_7 : w38.cell? ⟨gb285,7,none⟩ = some (.slice A0_7 l0_7.length c0_7) := (blk_cell BK285.out 7).trans rfl; have hcz39_8 : w38.cell? ⟨gb285,8,none⟩ = some (.int .i64 a0_8) := (blk_cell BK285.out 8).trans rfl; have hcz39_9 : w38.cell? ⟨gb285,9,none⟩ = some (.int .i64 a0_9) := (blk_cell BK285.out 9).trans rfl; have hcz39_10 : w38.cell? ⟨gb285,10,none⟩ = some (.int .i64 a0_10) := (blk_cell BK285.out 10).trans rfl; have hcz39_11 : w38.cell? ⟨gb285,11,none⟩ = some (.int .i64 a0_11) := (blk_cell BK285.out 11).trans rfl; have hcz39_12 : w38.cell? ⟨gb285,12,none⟩ = some (.int .i64 a0_12) := (blk_cell BK285.out 12).trans rfl; have hcz39_13 : w38.cell? ⟨gb285,13,none⟩ = some (.int .i64 a0_13) := (blk_cell BK285.out 13).trans rfl; have hfz39_0 := blk_frozen BK285.out 0; have hfz39_1 := blk_frozen BK285.out 1; have hfz39_2 := blk_frozen BK285.out 2; have hfz39_3 := blk_frozen BK285.out 3; have hfz39_4 := blk_frozen BK285.out 4; have hfz39_5 := blk_frozen BK285.out 5; have hfz39_6 := blk_frozen BK285.out 6; have hfz39_7 := blk_frozen BK285.out 7; have hfz39_8 := blk_frozen BK285.out 8; have hfz39_9 := blk_frozen BK285.out 9; have hfz39_10 := blk_frozen BK285.out 10; have hfz39_11 := blk_frozen BK285.out 11; have hfz39_12 := blk_frozen BK285.out 12; have hfz39_13 := blk_frozen BK285.out 13) | ((with_reducible refine gate_callee (f:=53) rfl ?_); refine goesL_ (some 5) rfl rfl Tryd.func53 (by kernel_rfl) rfl #[.int .i64 a0_0] rfl mA ?_; (with_reducible refine (impl_isId.calls a0_0 true _ A2.out).mono ?_); rintro e w' ⟨rfl,⟨nd,rfl⟩⟩; refine ⟨_,rfl,?_⟩) | (go_at_call 54; (with_reducible refine (impl_within.calls a0_1 0 4 false _ A4.out).mono ?_); rintro e w' ⟨rfl,⟨nd,rfl⟩⟩))
   go_ret
   exact ⟨by first | rfl | (simp [errW_none,errW_some] <;> rfl) | (simp [*,errW_none,errW_some] <;> rfl),bA⟩
 ·replace c3 := Bool.eq_false_iff.mpr c3
  subst c3
  rw [if_neg (show ¬ (false = true) by decide)] at H
  obtain rfl := Option.some.inj H
  go_enter Tryd.func25,Tryd.ntmps25
  go_wp2_with (first | ((with_reducible refine gate_dst (N:=1) rfl ?_); (try (refine gate_guard (by rfl) ?_; dsimp only)); refine box_event ?hg (N:=1) ?hd (cs := #[.int .i64 a0_0,.int .i64 a0_1,.int .i64 a0_2,.int .i64 a0_3,.int .i64 a0_4,.int .i64 a0_5,.int .i64 a0_6,.slice A0_7 l0_7.length c0_7,.int .i64 a0_8,.int .i64 a0_9,.int .i64 a0_10,.int .i64 a0_11,.int .i64 a0_12,.int .i64 a0_13]) (t:=60) ?hr ?_; (case hd => rfl); (case hg => rfl); (case hr => first | (go_simp; done) | (go_simp; rfl)); intro gb285 hg w40 hbox hb; have n0_ := Aside0.mk (below_step bA hb); have n1_ := Aside0.mk (hbox); have n2_ := Aside0.mk ((by rw [hg]; exact (below_size bA) : w.heap.size ≤ gb285)); have n3_ := Aside0.mk ((by rw [hg]; exact (below_size bA) : w.heap.size ≤ gb285)); clear HB; have HB := n0_; have BK285 := n1_; have GW285 := n2_; have GE285 := n3_; clear n0_ n1_ n2_ n3_; clear hb hbox hg; have hcz41_0 : w40.cell? ⟨gb285,0,none⟩ = some (.int .i64 a0_0) := (blk_cell BK285.out 0).trans rfl; have hcz41_1 : w40.cell? ⟨gb285,1,none⟩ = some (.int .i64 a0_1) := (blk_cell BK285.out 1).trans rfl; have hcz41_2 : w40.cell? ⟨gb285,2,none⟩ = some (.int .i64 a0_2) := (blk_cell BK285.out 2).trans rfl; have hcz41_3 : w40.cell? ⟨gb285,3,none⟩ = some (.int .i64 a0_3) := (blk_cell BK285.out 3).trans rfl; have hcz41_4 : w40.cell? ⟨gb285,4,none⟩ = some (.int .i64 a0_4) := (blk_cell BK285.out 4).trans rfl; have hcz41_5 : w40.cell? ⟨gb285,5,none⟩ = some (.int .i64 a0_5) := (blk_cell BK285.out 5).trans rfl; have hcz41_6 : w40.cell? ⟨gb285,6,none⟩ = some (.int .i64 a0_6) := (blk_cell BK285.out 6).trans rfl; have hcz41_7 : w40.cell? ⟨gb285,7,none⟩ = some (.slice A0_7 l0_7.length c0_7) := (blk_cell BK285.out 7).trans rfl; have hcz41_8 : w40.cell? ⟨gb285,8,none⟩ = some (.int .i64 a0_8) := (blk_cell BK285.out 8).trans rfl; have hcz41_9 : w40.cell? ⟨gb285,9,none⟩ = some (.int .i64 a0_9) := (blk_cell BK285.out 9).trans rfl; have hcz41_10 : w40.cell? ⟨gb285,10,none⟩ = some (.int .i64 a0_10) := (blk_cell BK285.out 10).trans rfl; have hcz41_11 : w40.cell? ⟨gb285,11,none⟩ = some (.int .i64 a0_11) := (blk_cell BK285.out 11).trans rfl; have hcz41_12 : w40.cell? ⟨gb285,12,none⟩ = some (.int .i64 a0_12) := (blk_cell BK285.out 12).trans rfl; have hcz41_13 : w40.cell? ⟨gb285,13,none⟩ = some (.int .i64 a0_13) := (blk_cell BK285.out 13).trans rfl; have hfz41_0 := blk_frozen BK285.out 0; have hfz41_1 := blk_frozen BK285.out 1; have hfz41_2 := blk_frozen BK285.out 2; have hfz41_3 := blk_frozen BK285.out 3; have hfz41_4 := blk_frozen BK285.out 4; have hfz41_5 := blk_frozen BK285.out 5; have hfz41_6 := blk_frozen BK285.out 6; have hfz41_7 := blk_frozen BK285.out 7; have hfz41_8 := blk_frozen BK285.out 8; have hfz41_9 := blk_frozen BK285.out 9; have hfz41_10 := blk_frozen BK285.out 10; have hfz41_11 := blk_frozen BK285.out 11; have hfz41_12 := blk_frozen BK285.out 12; have hfz41_13 := blk_frozen BK285.out 13) | ((with_reducible refine gate_callee (f:=53) rfl ?_); refine goesL_ (some 5) rfl rfl Tryd.func53 (by kernel_rfl) rfl #[.int .i64 a0_0] rfl mA ?_; (with_reducible refine (impl_isId.calls a0_0 false _ A2.out).mono ?_); rintro e w' ⟨rfl,⟨nd,rfl⟩⟩; refine ⟨_,rfl,?_⟩))
  go_ret
  exact ⟨by first | rfl | (simp [errW_none,errW_some] <;> rfl) | (simp [*,errW_none,errW_some] <;> rfl),bA⟩

/-! ### impl_first: function 70 -/
def impl_first.l0 : Nat → List AnyV → Int → Option (Int)
 | 0,_,_ => none
 | k + 1,x0,x3 => if (wrap64 (x3 + 1)) < (x0.length : Int) then (if 0 ≤ x3 then (if x3 < (x0.length : Int) then (if anyAsB (rdOf anyZ x0 x3) = true then (if 0 ≤ (wrap64 (x3 + 1)) then (some (anyAsI (rdOf anyZ x0 (wrap64 (x3 + 1))))) else (none)) else (impl_first.l0 k x0 (wrap64 (x3 + 2)))) else (none)) else (none)) else (some 0)
def impl_first.f (k : Nat) (l0 : List AnyV) : Option (Int) := impl_first.l0 k l0 0
theorem impl_first.mono_l : ∀ k,(∀ y0 y1,LeO (impl_first.l0 k y0 y1) (impl_first.l0 (k + 1) y0 y1))
 | 0 => fun _ _ r h => by simp [impl_first.l0] at h
 | k + 1 => by
  have ih0 := impl_first.mono_l k
  ·intro y0 y1
   unfold impl_first.l0
   repeat' first
   | (with_reducible exact ih0 _ _)
   | (with_reducible exact LeO.refl _)
   | (with_reducible exact LeO.none _)
   | (with_reducible refine LeO.ite ?_ ?_)
   | (with_reducible refine LeO.bind ?_ (fun _ => ?_))
   | exact ih0 _ _
   | exact LeO.none _
   | refine LeO.ite ?_ ?_
   | refine LeO.bind ?_ (fun _ => ?_)
theorem impl_first.mono : ∀ a0 k,LeO (impl_first.f k a0) (impl_first.f (k + 1) a0) := by
 intro a0 k
 have ih0 := impl_first.mono_l k
 unfold impl_first.f
 repeat' first
   | (with_reducible exact ih0 _ _)
   | (with_reducible exact LeO.refl _)
   | (with_reducible exact LeO.none _)
   | (with_reducible refine LeO.ite ?_ ?_)
   | (with_reducible refine LeO.bind ?_ (fun _ => ?_))
   | exact ih0 _ _
   | exact LeO.none _
   | refine LeO.ite ?_ ?_
   | refine LeO.bind ?_ (fun _ => ?_)
set_option maxHeartbeats 8000000 in
set_option maxRecDepth 100000 in
theorem impl_first.calls (k : Nat) (A0 : Option Addr) (c0 : Nat) (l0 : List AnyV) (r : Int) (w : World) (hr0 : Kd.C kAny w A0 l0.length l0) (hc0 : l0.length ≤ c0) (h : impl_first.f k l0 = some r) :
  Calls Tryd.prog 70 #[.slice A0 l0.length c0] w fun e w' => e = .returned (.int .i64 r) ∧ Drawn0 w w' := by
 have htaB := fun (x : AnyV) (W : World) => htaB_ x W
 have hua20 := Tryd.underlying20
 have htaI := fun (x : AnyV) (W : World) => htaI_ x W
 have HR0 := Aside0.mk hr0
 have HC0 := Aside0.mk hc0
 clear hr0 hc0
 have H : (impl_first.l0 k l0 0) = some r := h
 clear h
 have H' := Aside0.mk H
 clear H
 go_enter Tryd.func70,Tryd.ntmps70
 go_wp2
 go_loopg [3] k (fun kq v3 w' => ∃ (x3_1 : Int),v3 = .int .i64 x3_1 ∧ Aside0 (impl_first.l0 kq l0 x3_1 = some r) ∧ Aside0 (kq ≤ k) ∧ Drawn0 w w')
 case atStart => exact ⟨(0),(by first | rfl | (simp; done) | (simp [*]; done)),H',⟨Nat.le_refl _⟩,by repeat (first | exact Drawn0.refl _ | apply Drawn0.step)⟩
 case round =>
  clear H'
  obtain ⟨x3_1,rfl,HA,HK1,⟨m1,rfl⟩⟩ := hrel
  cases gk with
  | zero => exact absurd HA.out (by simp [impl_first.l0])
  | succ k1 =>
   have H := HA.out
   clear HA
   simp only [impl_first.l0] at H
   by_cases c2 : (wrap64 (x3_1 + 1)) < (l0.length : Int)
   ·rw [if_pos c2] at H
    have c2b0 : decide ((wrap64 (x3_1 + 1)) < (l0.length : Int)) = true := decide_eq_true c2
    clear c2
    by_cases c3 : 0 ≤ x3_1
    ·rw [if_pos c3] at H
     have c3b0 : decide (0 ≤ x3_1) = true := decide_eq_true c3
     clear c3
     by_cases c4 : x3_1 < (l0.length : Int)
     ·rw [if_pos c4] at H
      have c4b0 : decide (x3_1 < (l0.length : Int)) = true := decide_eq_true c4
      clear c4
      by_cases c5 : anyAsB (rdOf anyZ l0 x3_1) = true
      ·rw [if_pos c5] at H
       have c5b0 : anyAsB (rdOf anyZ l0 x3_1) = true := c5
       clear c5
       obtain ⟨ji6,hji6⟩ : ∃ j_ : Int,(wrap64 (x3_1 + 1)) = j_ := ⟨_,rfl⟩
       replace H : (if 0 ≤ (ji6) then (some (anyAsI (rdOf anyZ l0 (ji6)))) else (none)) = some r := by first | (rw [hji6] at H; exact H) | (simp only [hji6] at H ⊢; exact H)
       (try rw [hji6] at c2b0)
       have hji6w : (IntKind.i64.wrap (x3_1 + 1)) = ji6 := (i64_w _).trans hji6
       by_cases c7 : 0 ≤ (ji6)
       ·rw [if_pos c7] at H
        have c7b0 : decide (0 ≤ (ji6)) = true := decide_eq_true c7
        clear c7
        obtain rfl := Option.some.inj H
        have p294 : 0 ≤ (x3_1 : Int) := of_decide_eq_true (by first | (with_reducible assumption) | assumption)
        have q294 : x3_1 < (l0.length : Int) := of_decide_eq_true (by first | (with_reducible assumption) | assumption)
        obtain ⟨ad294,e294,hx294_0⟩ := kAny_at HR0.out x3_1 p294 q294
        cases e294
        replace p294 := eq_true p294
        replace q294 := eq_true q294
        have p295 : 0 ≤ ((ji6) : Int) := of_decide_eq_true (by first | (with_reducible assumption) | assumption)
        have q295 : (ji6) < (l0.length : Int) := of_decide_eq_true (by first | (with_reducible assumption) | assumption)
        obtain ⟨ad295,e295,hx295_0⟩ := kAny_at HR0.out (ji6) p295 q295
        obtain rfl : ad294 = ad295 := (by injection e295)
        replace p295 := eq_true p295
        replace q295 := eq_true q295
        go_wp2
        go_ret
        exact ⟨by first | rfl | (simp; done) | (simp only [← hji6] <;> (first | rfl | simp)) | (simp [*]; done),by repeat (first | exact Drawn0.refl _ | apply Drawn0.step)⟩
       ·rw [if_neg c7] at H
        exact absurd H (by simp)
      ·rw [if_neg c5] at H
       have c5b0 : anyAsB (rdOf anyZ l0 x3_1) = false := by simpa using c5
       clear c5
       have H' := Aside0.mk H
       clear H
       have p294 : 0 ≤ (x3_1 : Int) := of_decide_eq_true (by first | (with_reducible assumption) | assumption)
       have q294 : x3_1 < (l0.length : Int) := of_decide_eq_true (by first | (with_reducible assumption) | assumption)
       obtain ⟨ad294,e294,hx294_0⟩ := kAny_at HR0.out x3_1 p294 q294
       cases e294
       replace p294 := eq_true p294
       replace q294 := eq_true q294
       go_wp2
       go_roundg k1
       case measure => have := HK1.out; omega
       case rel => exact ⟨(wrap64 (x3_1 + 2)),(by first | rfl | (simp; done) | (simp [*]; done)),H',⟨by have := HK1.out; omega⟩,by repeat (first | exact Drawn0.refl _ | apply Drawn0.step)⟩
     ·rw [if_neg c4] at H
      exact absurd H (by simp)
    ·rw [if_neg c3] at H
     exact absurd H (by simp)
   ·rw [if_neg c2] at H
    have c2b0 : decide ((wrap64 (x3_1 + 1)) < (l0.length : Int)) = false := decide_eq_false c2
    clear c2
    obtain rfl := Option.some.inj H
    go_wp2
    go_ret
    exact ⟨by first | rfl | (simp; done) | (simp [*]; done),by repeat (first | exact Drawn0.refl _ | apply Drawn0.step)⟩

end Go.Proofs.YtleifhnoaaphmaaDoor.XFnExactAskReader
