-- Printed by this session's own program wip/tools/xprint.py, which widens the kit's print. Not trusted: Lean checks it.
import Derived.Test.YtgkfemnfbkgeiaaXFnCasx0
import Derived.Test.YtgkfemnfbkgeiaaXFnCasx6
import Derived.Test.YtgkfemnfbkgeiaaXFnCasx8
import Derived.Test.YtgkfemnfbkgeiaaXFnCasx9
namespace Go.Proofs.Ytgkfemnfbkgeiaa.XFnCas
open List (setIfInBounds_toArray set_cons_zero set_cons_succ)
open Go.RowKit Go.Proofs.YtgkfemnfbkgeiaaW.PrintWords Go.Proofs.YtgkfemnfbkgeiaaW.PrintLast Go.Proofs.YtgkfemnfbkgeiaaW.PrintMore
attribute [local go_sem] max2_int min2_int max_two min_two max_three min_three max_four min_four   -- for this text's walks alone
set_option linter.unusedVariables false
set_option linter.unusedSimpArgs false

/-! ### impl_Store_putAbsent: function 35 -/
def impl_Store_putAbsent.f (k : Nat) (l0_0 : List (S32)) (a0_1 : Int) (a1 : ByteArray) (a2 : ByteArray) : Option ((List (S32)) × Int × Int × Int) := (impl_Store_find.f l0_0 a0_1 a1).bind fun bt393 => (if bt393.2 = true then (some (l0_0,a0_1,0,9)) else ((impl_Store_put.f k l0_0 a0_1 a1 a2).bind fun bt395 => (some (bt395.1,bt395.2.1,bt395.2.2.1,bt395.2.2.2))))
theorem impl_Store_putAbsent.mono : ∀ a0 a1 a2 a3 k,LeO (impl_Store_putAbsent.f k a0 a1 a2 a3) (impl_Store_putAbsent.f (k + 1) a0 a1 a2 a3) := by
 intro a0 a1 a2 a3 k
 unfold impl_Store_putAbsent.f
 repeat' first
 | (with_reducible first | exact impl_Store_put.mono .. | exact LeO.refl _ | exact LeO.none _ | refine LeO.ite ?_ ?_ | refine LeO.bind ?_ (fun _ => ?_))
 | exact LeO.none _ | refine LeO.ite ?_ ?_ | refine LeO.bind ?_ (fun _ => ?_)
set_option maxHeartbeats 8000000 in
set_option maxRecDepth 100000 in
theorem impl_Store_putAbsent.calls (k : Nat) (P0_0_ : Nat → Prop) (A0_0 : Option Addr) (c0_0 : Nat) (l0_0 : List (S32)) (a0_1 : Int) (a1 : ByteArray) (a2 : ByteArray) (r1 : List (S32)) (r2 : Int) (r3 : Int) (r4 : Int) (w : World) (hs0_0 : Kd.V k32 32 w w.heap.size (fun k_ => P0_0_ k_) (.slice A0_0 l0_0.length c0_0) l0_0) (h : impl_Store_putAbsent.f k l0_0 a0_1 a1 a2 = some (r1,r2,r3,r4)) :
  Calls Try.prog 35 #[.agg #[.slice A0_0 l0_0.length c0_0,.int .i64 a0_1],.string a1,.string a2] w fun e w' => ∃ v0_ : Value,e = .returned (.tuple #[.agg #[v0_,.int .i64 r2],.int .i64 r3,.int .i64 r4]) ∧ Kd.V k32 32 w' w.heap.size (fun k_ => (P0_0_ k_ ∨ w.heap.size ≤ k_)) v0_ r1 ∧ Below w.heap.size w w' := by
 have hu25 := Try.underlying25
 have HO0_0 := Aside0.mk (show Kd.V k32 32 w w.heap.size (fun k_ => (P0_0_ k_ ∨ w.heap.size ≤ k_)) (.slice A0_0 l0_0.length c0_0) l0_0 from Kd.V_mono hs0_0 (fun k_ hk => .inl hk))
 have HB := Aside0.mk (Below.refl w.heap.size w)
 have H : ((impl_Store_find.f l0_0 a0_1 a1).bind fun bt393 => (if bt393.2 = true then (some (l0_0,a0_1,0,9)) else ((impl_Store_put.f k l0_0 a0_1 a1 a2).bind fun bt395 => (some (bt395.1,bt395.2.1,bt395.2.2.1,bt395.2.2.2))))) = some (r1,r2,r3,r4) := h
 clear h
 replace H := Option.bind_eq_some_iff.mp H
 obtain ⟨⟨t393,t394⟩,A40,H⟩ := H
 try dsimp only at H
 have A4 := Aside0.mk A40
 clear A40
 by_cases c5 : t394 = true
 ·subst c5
  rw [if_pos rfl] at H
  simp only [Option.some.injEq,Prod.mk.injEq] at H
  obtain ⟨rfl,rfl,rfl,rfl⟩ := H
  go_enter Try.func35,Try.ntmps35
  go_wp2_with (first | ((with_reducible refine gate_dst (N:=3) rfl ?_); refine box_event ?hg (N:=3) ?hd (cs := #[.slice A0_0 l0_0.length c0_0,.int .i64 a0_1]) (t:=25) ?hr ?_; (case hd => rfl); (case hg => rfl); (case hr => first | (go_simp; done) | (go_simp; rfl)); intro gb391 hg w6 hbox hb; replace HO0_0 := Aside0.mk (Kd.V_below (Kd.V_elderB (vA HO0_0.out) gb391 (Nat.le_of_eq hg.symm)) hb); have BK391 := Aside0.mk (hbox); have GW391 := Aside0.mk ((gw hg : w.heap.size ≤ gb391)); have GE391 := Aside0.mk ((gw hg : w.heap.size ≤ gb391)); replace HB := Aside0.mk (below_step bA hb); clear hb hbox hg) | ((with_reducible refine gate_dst (N:=6) rfl ?_); refine box_event ?hg (N:=6) ?hd (cs := #[.slice none 0 0,.int .i64 0]) (t:=25) ?hr ?_; (case hd => rfl); (case hg => rfl); (case hr => first | (go_simp; done) | (go_simp; rfl)); intro gb392 hg w7 hbox hb; replace HO0_0 := Aside0.mk (Kd.V_below (Kd.V_elderB (vA HO0_0.out) gb392 (Nat.le_of_eq hg.symm)) hb); have BK392 := Aside0.mk (hbox); have GW392 := Aside0.mk ((gw hg : w.heap.size ≤ gb392)); have GE392 := Aside0.mk ((gw hg : w.heap.size ≤ gb392)); replace HB := Aside0.mk (below_step bA hb); have NB391_392 := Aside0.mk ((nl hg BK391.out)); have NB392_391 := Aside0.mk ((ng hg BK391.out)); replace BK391 := Aside0.mk (bb BK391.out hb); clear hb hbox hg; have hnb8 := NB391_392.out; have hnc8 := NB392_391.out; obtain ⟨hcz9_0,hcz9_1⟩ := cl2 BK391.out; obtain ⟨hfz9_0,hfz9_1⟩ := fz2 BK391.out) | ((with_reducible refine gate_callee (f:=40) rfl ?_); refine goesL_ (some 14) rfl rfl Try.func40 (by kernel_rfl) rfl #[.agg #[.slice A0_0 l0_0.length c0_0,.int .i64 a0_1],.string a1] rfl mA ?_; (with_reducible refine (impl_Store_find.calls _ _ l0_0 a0_1 a1 t393 true _ ?side1 ?side2 A4.out).mono ?_); (case side1 => repeat (first | exact (Kd.V_reads' HO0_0.out).2.2 | (with_reducible refine Kd.C_alloc ?_ _) | (with_reducible refine Kd.C_drewN ?_ _) | (with_reducible refine Kd.C_drew ?_))); (case side2 => exact (Kd.V_reads' HO0_0.out).2.1); rintro e w10 ⟨rfl,hb⟩; refine ⟨_,rfl,?_⟩; replace HO0_0 := Aside0.mk (Kd.V_below (vA HO0_0.out) hb); replace BK391 := Aside0.mk (bb BK391.out hb); replace BK392 := Aside0.mk (bb BK392.out hb); replace HB := Aside0.mk (below_step bA hb); clear hb; obtain ⟨hcz11_0,hcz11_1⟩ := cl2 BK391.out; obtain ⟨hfz11_0,hfz11_1⟩ := fz2 BK391.out; obtain ⟨hcz12_0,hcz12_1⟩ := cl2 BK392.out; obtain ⟨hfz12_0,hfz12_1⟩ := fz2 BK392.out))
  refine bodyPost_ret (results_ctt rfl _ _ gb392 25 #[.slice A0_0 l0_0.length c0_0,.int .i64 a0_1] (0,0) _ rfl (by (with_reducible repeat (first | refine blk_drewN ?_ _ | refine blk_drew ?_ | refine blk_alloc ?_ _)); apply blkp2; (with_reducible repeat (first | refine blk_drewN ?_ _ | refine blk_drew ?_ | refine blk_alloc ?_ _)); exact BK392.out) Try.underlying25 rfl (by kernel_rfl)) rfl ?_
  exact ⟨_,by first | rfl | (simp [errW_none,errW_some] <;> rfl) | (simp [*,errW_none,errW_some] <;> rfl),by (with_reducible repeat (first | apply Kd.V_alloc | apply Kd.V_drewN | apply Kd.V_drew)); exact Kd.V_mono (Kd.V_far (p:=⟨gb392,1,none⟩) (Kd.V_far (p:=⟨gb392,0,none⟩) (Kd.V_mono HO0_0.out (fun k_ hk => (⟨hk,hk.2⟩ : _ ∧ k_ ≠ gb392))) (fun _ hk => hk.2) (.slice A0_0 l0_0.length c0_0)) (fun _ hk => hk.2) (.int .i64 a0_1)) (fun _ hk => hk.1.1.1),bA⟩
 ·replace c5 := Bool.eq_false_iff.mpr c5
  subst c5
  rw [if_neg (show ¬ (false = true) by decide)] at H
  replace H := Option.bind_eq_some_iff.mp H
  obtain ⟨⟨t395,t398,t399,t400⟩,A130,H⟩ := H
  try dsimp only at H
  have A13 := Aside0.mk A130
  clear A130
  simp only [Option.some.injEq,Prod.mk.injEq] at H
  obtain ⟨rfl,rfl,rfl,rfl⟩ := H
  go_enter Try.func35,Try.ntmps35
  go_wp2_with (first | ((with_reducible refine gate_dst (N:=3) rfl ?_); refine box_event ?hg (N:=3) ?hd (cs := #[.slice A0_0 l0_0.length c0_0,.int .i64 a0_1]) (t:=25) ?hr ?_; (case hd => rfl); (case hg => rfl); (case hr => first | (go_simp; done) | (go_simp; rfl)); intro gb391 hg w14 hbox hb; replace HO0_0 := Aside0.mk (Kd.V_below (Kd.V_elderB (vA HO0_0.out) gb391 (Nat.le_of_eq hg.symm)) hb); have BK391 := Aside0.mk (hbox); have GW391 := Aside0.mk ((gw hg : w.heap.size ≤ gb391)); have GE391 := Aside0.mk ((gw hg : w.heap.size ≤ gb391)); replace HB := Aside0.mk (below_step bA hb); clear hb hbox hg) | ((with_reducible refine gate_dst (N:=6) rfl ?_); refine box_event ?hg (N:=6) ?hd (cs := #[.slice none 0 0,.int .i64 0]) (t:=25) ?hr ?_; (case hd => rfl); (case hg => rfl); (case hr => first | (go_simp; done) | (go_simp; rfl)); intro gb392 hg w15 hbox hb; replace HO0_0 := Aside0.mk (Kd.V_below (Kd.V_elderB (vA HO0_0.out) gb392 (Nat.le_of_eq hg.symm)) hb); have BK392 := Aside0.mk (hbox); have GW392 := Aside0.mk ((gw hg : w.heap.size ≤ gb392)); have GE392 := Aside0.mk ((gw hg : w.heap.size ≤ gb392)); replace HB := Aside0.mk (below_step bA hb); have NB391_392 := Aside0.mk ((nl hg BK391.out)); have NB392_391 := Aside0.mk ((ng hg BK391.out)); replace BK391 := Aside0.mk (bb BK391.out hb); clear hb hbox hg; have hnb16 := NB391_392.out; have hnc16 := NB392_391.out; obtain ⟨hcz17_0,hcz17_1⟩ := cl2 BK391.out; obtain ⟨hfz17_0,hfz17_1⟩ := fz2 BK391.out) | ((with_reducible refine gate_callee (f:=40) rfl ?_); refine goesL_ (some 14) rfl rfl Try.func40 (by kernel_rfl) rfl #[.agg #[.slice A0_0 l0_0.length c0_0,.int .i64 a0_1],.string a1] rfl mA ?_; (with_reducible refine (impl_Store_find.calls _ _ l0_0 a0_1 a1 t393 false _ ?side1 ?side2 A4.out).mono ?_); (case side1 => repeat (first | exact (Kd.V_reads' HO0_0.out).2.2 | (with_reducible refine Kd.C_alloc ?_ _) | (with_reducible refine Kd.C_drewN ?_ _) | (with_reducible refine Kd.C_drew ?_))); (case side2 => exact (Kd.V_reads' HO0_0.out).2.1); rintro e w18 ⟨rfl,hb⟩; refine ⟨_,rfl,?_⟩; replace HO0_0 := Aside0.mk (Kd.V_below (vA HO0_0.out) hb); replace BK391 := Aside0.mk (bb BK391.out hb); replace BK392 := Aside0.mk (bb BK392.out hb); replace HB := Aside0.mk (below_step bA hb); clear hb; obtain ⟨hcz19_0,hcz19_1⟩ := cl2 BK391.out; obtain ⟨hfz19_0,hfz19_1⟩ := fz2 BK391.out) | ((with_reducible refine gate_callee (f:=44) rfl ?_); refine goesL_ (some 22) rfl rfl Try.func44 (by kernel_rfl) rfl #[.agg #[.slice A0_0 l0_0.length c0_0,.int .i64 a0_1],.string a1,.string a2] rfl mA ?_; (with_reducible refine (impl_Store_put.calls k (fun k_ => (((P0_0_ k_ ∨ w.heap.size ≤ k_) ∧ k_ ≠ gb391) ∧ k_ ≠ gb392)) _ _ l0_0 a0_1 a1 a2 t395 t398 t399 t400 _ ?side1 A13.out).mono ?_); (case side1 => exact HO0_0.out); rintro e w20 ⟨v396,rfl,ho0,hb⟩; refine ⟨_,rfl,?_⟩; replace HO0_0 := Aside0.mk (Kd.V_below (vA HO0_0.out) hb); have HO397 := Aside0.mk (Kd.V_lower (Kd.V_mono (ok' := fun k_ => (P0_0_ k_ ∨ w.heap.size ≤ k_) ∧ k_ ≠ gb391 ∧ k_ ≠ gb392) ho0 (fun k_ hk_ => ⟨Or.elim hk_ (fun hs_ => hs_.1.1) (fun hn_ => (.inr (Nat.le_trans (below_size bA) hn_))),Or.elim hk_ (fun hs_ => hs_.1.2) (fun hn_ => (fB BK391.out k_ hn_)),Or.elim hk_ (fun hs_ => hs_.2) (fun hn_ => (fB BK392.out k_ hn_))⟩)) (below_size bA)); replace BK391 := Aside0.mk (bb BK391.out hb); replace BK392 := Aside0.mk (bb BK392.out hb); replace HB := Aside0.mk (below_step bA hb); clear hb; (try clear ho0); obtain ⟨Ao21,co21,eo21⟩ := Kd.V_slice HO397.out; subst eo21; obtain ⟨hcz22_0,hcz22_1⟩ := cl2 BK392.out; obtain ⟨hfz22_0,hfz22_1⟩ := fz2 BK392.out))
  refine bodyPost_ret (results_ctt rfl _ _ gb392 25 #[.slice Ao21 t395.length co21,.int .i64 t398] (0,0) _ rfl (by (with_reducible repeat (first | refine blk_drewN ?_ _ | refine blk_drew ?_ | refine blk_alloc ?_ _)); apply blkp2; (with_reducible repeat (first | refine blk_drewN ?_ _ | refine blk_drew ?_ | refine blk_alloc ?_ _)); exact BK392.out) Try.underlying25 rfl (by kernel_rfl)) rfl ?_
  exact ⟨_,by first | rfl | (simp [errW_none,errW_some] <;> rfl) | (simp [*,errW_none,errW_some] <;> rfl),by (with_reducible repeat (first | apply Kd.V_alloc | apply Kd.V_drewN | apply Kd.V_drew)); exact Kd.V_mono (Kd.V_far (p:=⟨gb392,1,none⟩) (Kd.V_far (p:=⟨gb392,0,none⟩) (Kd.V_mono HO397.out (fun k_ hk => (⟨hk,hk.2.2⟩ : _ ∧ k_ ≠ gb392))) (fun _ hk => hk.2) (.slice Ao21 t395.length co21)) (fun _ hk => hk.2) (.int .i64 t398)) (fun _ hk => hk.1.1),bA⟩

/-! ### impl_PutAbsent: function 12 -/
def impl_PutAbsent.f (k : Nat) (l0_0 : List (S32)) (a0_1 : Int) (a1 : ByteArray) (a2 : ByteArray) : Option ((List (S32)) × Int × Int × Int) := (impl_isLong.f (([a1,a2] : List ByteArray))).bind fun t406 => ((impl_storeCode.f k l0_0 a0_1 a1).bind fun t407 => ((impl_first.f k (([anyB t406,anyI 2,anyB true,anyI t407] : List AnyV))).bind fun t411 => (if t411 = 0 then ((impl_Store_putAbsent.f k l0_0 a0_1 a1 a2).bind fun bt412 => ((impl_Store_copied.f bt412.1 bt412.2.1).bind fun bt419 => (some (bt419.1,bt419.2,bt412.2.2.1,bt412.2.2.2)))) else (some (([] : List (S32)),0,0,t411)))))
theorem impl_PutAbsent.mono : ∀ a0 a1 a2 a3 k,LeO (impl_PutAbsent.f k a0 a1 a2 a3) (impl_PutAbsent.f (k + 1) a0 a1 a2 a3) := by
 intro a0 a1 a2 a3 k
 unfold impl_PutAbsent.f
 repeat' first
 | (with_reducible first | exact impl_Store_putAbsent.mono .. | exact impl_first.mono .. | exact impl_storeCode.mono .. | exact LeO.refl _ | exact LeO.none _ | refine LeO.ite ?_ ?_ | refine LeO.bind ?_ (fun _ => ?_))
 | exact LeO.none _ | refine LeO.ite ?_ ?_ | refine LeO.bind ?_ (fun _ => ?_)
def impl_PutAbsent.T1 : Bool × List (List Nat × List Nat) := (true,[([],[]),([],[]),([0,1],[0,1]),([2],[2]),([3],[3]),([],[]),([],[]),([],[]),([],[]),([7,8,3],[7,8]),([9],[9]),([4,5,6,10],[4,5,6,10]),([11,9],[11]),([12,12,0,1,2,3,4,5,6,7,8,9,10,11,12],[12])])
def impl_PutAbsent.B1 : List Nat := [0,0,3,7,15,0,0,0,0,399,911,2047,4095,8191]
theorem impl_PutAbsent.tab1 : rtab .any (opsOf Try.f12 1) = impl_PutAbsent.T1 := by kernel_rfl
theorem impl_PutAbsent.bits1 : waitsOk impl_PutAbsent.T1.2 impl_PutAbsent.B1 = true := by kernel_rfl
set_option maxHeartbeats 8000000 in
set_option maxRecDepth 100000 in
theorem impl_PutAbsent.calls (k : Nat) (A0_0 : Option Addr) (c0_0 : Nat) (l0_0 : List (S32)) (a0_1 : Int) (a1 : ByteArray) (a2 : ByteArray) (r1 : List (S32)) (r2 : Int) (r3 : Int) (r4 : Int) (w : World) (hr0_0 : Kd.C k32 w A0_0 l0_0.length l0_0) (hc0_0 : l0_0.length ≤ c0_0) (h : impl_PutAbsent.f k l0_0 a0_1 a1 a2 = some (r1,r2,r3,r4)) :
  Calls Try.prog 12 #[.agg #[.slice A0_0 l0_0.length c0_0,.int .i64 a0_1],.string a1,.string a2] w fun e w' => ∃ v0_ : Value,e = .returned (.tuple #[.agg #[v0_,.int .i64 r2],.int .i64 r3,.int .i64 r4]) ∧ Kd.R k32 32 w' w.heap.size (fun _ => True) v0_ r1 ∧ Below w.heap.size w w' := by
 have hu25 := Try.underlying25
 have hua20 := Try.underlying20
 have HR0_0 := Aside0.mk hr0_0
 have HC0_0 := Aside0.mk hc0_0
 clear hr0_0 hc0_0
 have HB := Aside0.mk (Below.refl w.heap.size w)
 have H : ((impl_isLong.f (([a1,a2] : List ByteArray))).bind fun t406 => ((impl_storeCode.f k l0_0 a0_1 a1).bind fun t407 => ((impl_first.f k (([anyB t406,anyI 2,anyB true,anyI t407] : List AnyV))).bind fun t411 => (if t411 = 0 then ((impl_Store_putAbsent.f k l0_0 a0_1 a1 a2).bind fun bt412 => ((impl_Store_copied.f bt412.1 bt412.2.1).bind fun bt419 => (some (bt419.1,bt419.2,bt412.2.2.1,bt412.2.2.2)))) else (some (([] : List (S32)),0,0,t411)))))) = some (r1,r2,r3,r4) := h
 clear h
 obtain ⟨y403,hy403⟩ : ∃ y_ : List ByteArray,y_ = (([a1,a2] : List ByteArray)) := ⟨_,rfl⟩
 replace H : ((impl_isLong.f y403).bind fun t406 => ((impl_storeCode.f k l0_0 a0_1 a1).bind fun t407 => ((impl_first.f k (([anyB t406,anyI 2,anyB true,anyI t407] : List AnyV))).bind fun t411 => (if t411 = 0 then ((impl_Store_putAbsent.f k l0_0 a0_1 a1 a2).bind fun bt412 => ((impl_Store_copied.f bt412.1 bt412.2.1).bind fun bt419 => (some (bt419.1,bt419.2,bt412.2.2.1,bt412.2.2.2)))) else (some (([] : List (S32)),0,0,t411)))))) = some (r1,r2,r3,r4) := by first | (rw [hy403]; with_reducible exact H) | (have H2_ := (Option.bind_some _ _).symm.trans H; rw [hy403]; with_reducible exact H2_) | (have H2_ := (Option.bind_some _ _).symm.trans H; with_reducible exact H2_) | with_reducible exact H | (rw [hy403]; exact H) | exact H
 have Ny403 := Aside0.mk hy403
 clear hy403
 replace H := Option.bind_eq_some_iff.mp H
 obtain ⟨t406,A40,H⟩ := H
 try dsimp only at H
 have A4 := Aside0.mk A40
 clear A40
 replace H := Option.bind_eq_some_iff.mp H
 obtain ⟨t407,A50,H⟩ := H
 try dsimp only at H
 have A5 := Aside0.mk A50
 clear A50
 obtain ⟨y408,hy408⟩ : ∃ y_ : List AnyV,y_ = (([anyB t406,anyI 2,anyB true,anyI t407] : List AnyV)) := ⟨_,rfl⟩
 replace H : ((impl_first.f k y408).bind fun t411 => (if t411 = 0 then ((impl_Store_putAbsent.f k l0_0 a0_1 a1 a2).bind fun bt412 => ((impl_Store_copied.f bt412.1 bt412.2.1).bind fun bt419 => (some (bt419.1,bt419.2,bt412.2.2.1,bt412.2.2.2)))) else (some (([] : List (S32)),0,0,t411)))) = some (r1,r2,r3,r4) := by first | (rw [hy408]; with_reducible exact H) | (have H2_ := (Option.bind_some _ _).symm.trans H; rw [hy408]; with_reducible exact H2_) | (have H2_ := (Option.bind_some _ _).symm.trans H; with_reducible exact H2_) | with_reducible exact H | (rw [hy408]; exact H) | exact H
 have Ny408 := Aside0.mk hy408
 clear hy408
 replace H := Option.bind_eq_some_iff.mp H
 obtain ⟨t411,A60,H⟩ := H
 try dsimp only at H
 have A6 := Aside0.mk A60
 clear A60
 by_cases c7 : t411 = 0
 ·rw [if_pos c7] at H
  have c7b0 : (t411 == 0) = true := beq_iff_eq.mpr c7
  have c7b1 : (t411 != 0) = false := bne_eq_false_iff_eq.mpr c7
  clear c7
  replace H := Option.bind_eq_some_iff.mp H
  obtain ⟨⟨t412,t415,t416,t417⟩,A80,H⟩ := H
  try dsimp only at H
  have A8 := Aside0.mk A80
  clear A80
  replace H := Option.bind_eq_some_iff.mp H
  obtain ⟨⟨t419,t422⟩,A90,H⟩ := H
  try dsimp only at H
  have A9 := Aside0.mk A90
  clear A90
  simp only [Option.some.injEq,Prod.mk.injEq] at H
  obtain ⟨rfl,rfl,rfl,rfl⟩ := H
  go_enter Try.func12,Try.ntmps12
  try go_wp2_with (first | ((with_reducible refine gate_dst (N:=3) rfl ?_); refine box_event ?hg (N:=3) ?hd (cs := #[.slice A0_0 l0_0.length c0_0,.int .i64 a0_1]) (t:=25) ?hr ?_; (case hd => rfl); (case hg => rfl); (case hr => first | (go_simp; done) | (go_simp; rfl)); intro gb401 hg w10 hbox hb; have BK401 := Aside0.mk (hbox); have GW401 := Aside0.mk ((gw hg : w.heap.size ≤ gb401)); have GE401 := Aside0.mk ((gw hg : w.heap.size ≤ gb401)); replace HB := Aside0.mk (below_step bA hb); clear hb hbox hg) | ((with_reducible refine gate_dst (N:=6) rfl ?_); refine box_event ?hg (N:=6) ?hd (cs := #[.slice none 0 0,.int .i64 0]) (t:=25) ?hr ?_; (case hd => rfl); (case hg => rfl); (case hr => first | (go_simp; done) | (go_simp; rfl)); intro gb402 hg w11 hbox hb; have BK402 := Aside0.mk (hbox); have GW402 := Aside0.mk ((gw hg : w.heap.size ≤ gb402)); have GE402 := Aside0.mk ((gw hg : w.heap.size ≤ gb402)); replace HB := Aside0.mk (below_step bA hb); have NB401_402 := Aside0.mk ((nl hg BK401.out)); have NB402_401 := Aside0.mk ((ng hg BK401.out)); replace BK401 := Aside0.mk (bb BK401.out hb); clear hb hbox hg))
  replace BK401 := Aside0.mk (blk_drew BK401.out)
  replace BK402 := Aside0.mk (blk_drew BK402.out)
  replace HB := Aside0.mk (below_drew1 HB.out)
  refine start_ (n:=14) (S:=fun w' => w'.cell? ⟨gb401,0,none⟩ = some (.slice A0_0 l0_0.length c0_0) ∧ w'.cell? ⟨gb401,1,none⟩ = some (.int .i64 a0_1)) (ds := []) (bm 14 0) (by kernel_rfl) rfl rfl ⟨bl BK401 0,bl BK401 1⟩ (fun hHeld => ?_); refine with_tabW impl_PutAbsent.tab1 impl_PutAbsent.bits1 (fun HT_ HW_ => ?_)
  generalize w11.drew = w12 at BK401 BK402 HB hHeld ⊢
  refine pV_ 0 13 (bm 14 1) HT_.out ?_
  refine pV_ 1 14 (bm 14 3) HT_.out ?_
  refine pV_ 5 18 (bm 14 35) HT_.out ?_
  refine pV_ 6 19 (bm 14 99) HT_.out ?_
  refine pV_ 8 21 (bm 14 355) HT_.out ?_
  refine take_ (i:=7) (N:=some 20) (v:=?_) (a':=?_) (bm 14 483) rfl rfl (take_ofW HT_.out HW_.out (by kernel_rfl)) (fun _ _ _ h => h) (Or.inl ⟨by rfl,?_⟩) hHeld ?_ ?_
  rotate_left
  ·rintro w' ⟨s0,s1⟩
   go_simp
   with_reducible rfl
  rotate_left
  ·simp only [Act.put,setIfInBounds_toArray,set_cons_zero,set_cons_succ,i64_w,i32_w]
   rfl
  refine one_ (i:=2) (N:=some 15) (bm 14 487) rfl rfl (one_of HT_.out (by kernel_rfl)) (by decide) (fun K hK => ?_)
  refine Kd.R_lit_step Kd.string _ 9 ?hg (N:=15) ?hd (xs := ([a1,a2] : List ByteArray)) (inner := [.string a1,.string a2]) (ok := fun _ => True) (okp := fun _ => True) ?hr ?hp (fun _ hk => hk) trivial (Below.refl _ _) (Nat.le_refl _) (by simp) ?_; (case hd => rfl); (case hg => rfl); (case hr => first | (go_simp; done) | (go_simp; rfl)); (case hp => exact (Reps.one (show Kd.M Kd.string _ _ _ a1 [.string a1] from rfl) (Reps.one (show Kd.M Kd.string _ _ _ a2 [.string a2] from rfl) (Reps.none _ _))))
  intro v404 w13 ho14 hb hg_ hnew_
  clear hg_ hnew_
  (first | rw [← Ny403.out] at ho14 | (simp only [Int.reduceToNat] at ho14; rw [← Ny403.out] at ho14))
  have HO405 := Aside0.mk (Kd.R_lower ho14 (below_size bA))
  replace BK401 := Aside0.mk (bb BK401.out hb)
  replace BK402 := Aside0.mk (bb BK402.out hb)
  replace HB := Aside0.mk (below_step bA hb)
  clear hb ho14
  obtain ⟨Ao15,co15,eo15⟩ := Kd.R_slice HO405.out
  (first | subst eo15 | (injection eo15 with f1_ f2_ f3_; have f4_ := f1_.symm; have f5_ := f3_.symm; clear f1_ f2_ f3_; subst f4_; subst f5_))
  refine hK.out _ _ ⟨bl BK401 0,bl BK401 1⟩ (fun hHeld => ?_)
  clear hK K
  refine norm_ (a':=?_) ?_ ?_
  rotate_left
  ·show Act.put _ (some 15) _ = _
   simp only [Act.put,setIfInBounds_toArray,set_cons_zero,set_cons_succ,i64_w,i32_w]
   rfl
  refine one_ (i:=3) (N:=some 16) (bm 14 495) rfl rfl (one_of HT_.out (by kernel_rfl)) (by decide) (fun K hK => ?_)
  refine goes_ Try.func24 (by kernel_rfl) rfl #[.slice Ao15 y403.length co15] (by rfl) rfl rfl mA ?_
  with_reducible refine (impl_isLong.calls _ _ y403 t406 _ ?side1 ?side2 A4.out).mono ?_
  (case side1 => repeat (first | exact (Kd.R_reads' HO405.out).2.2 | (with_reducible refine Kd.C_alloc ?_ _) | (with_reducible refine Kd.C_drewN ?_ _) | (with_reducible refine Kd.C_drew ?_)))
  (case side2 => exact (Kd.R_reads' HO405.out).2.1)
  rintro e w16 ⟨rfl,hb⟩
  refine ⟨_,rfl,?_⟩
  replace HO405 := Aside0.mk (Kd.R_below (rA HO405.out) hb)
  replace BK401 := Aside0.mk (bb BK401.out hb)
  replace BK402 := Aside0.mk (bb BK402.out hb)
  replace HB := Aside0.mk (below_step bA hb)
  clear hb
  refine hK.out _ _ ⟨bl BK401 0,bl BK401 1⟩ (fun hHeld => ?_)
  clear hK K
  refine norm_ (a':=?_) ?_ ?_
  rotate_left
  ·show Act.put _ (some 16) _ = _
   simp only [Act.put,setIfInBounds_toArray,set_cons_zero,set_cons_succ,i64_w,i32_w]
   rfl
  refine pV_ 4 17 (bm 14 511) HT_.out ?_
  refine one_ (i:=9) (N:=some 22) (bm 14 1023) rfl rfl (one_of HT_.out (by kernel_rfl)) (by decide) (fun K hK => ?_)
  refine goes_ Try.func34 (by kernel_rfl) rfl #[.agg #[.slice A0_0 l0_0.length c0_0,.int .i64 a0_1],.string a1] (by rfl) rfl rfl mA ?_
  with_reducible refine (impl_storeCode.calls k _ _ l0_0 a0_1 a1 t407 _ ?side1 ?side2 A5.out).mono ?_
  (case side1 => exact sC HR0_0.out)
  (case side2 => exact HC0_0.out)
  rintro e w17 ⟨rfl,hb⟩
  refine ⟨_,rfl,?_⟩
  replace HO405 := Aside0.mk (Kd.R_below (rA HO405.out) hb)
  replace BK401 := Aside0.mk (bb BK401.out hb)
  replace BK402 := Aside0.mk (bb BK402.out hb)
  replace HB := Aside0.mk (below_step bA hb)
  clear hb
  refine hK.out _ _ ⟨bl BK401 0,bl BK401 1⟩ (fun hHeld => ?_)
  clear hK K
  refine norm_ (a':=?_) ?_ ?_
  rotate_left
  ·show Act.put _ (some 22) _ = _
   simp only [Act.put,setIfInBounds_toArray,set_cons_zero,set_cons_succ,i64_w,i32_w]
   rfl
  refine pV_ 10 23 (bm 14 2047) HT_.out ?_
  refine one_ (i:=11) (N:=some 24) (bm 14 4095) rfl rfl (one_of HT_.out (by kernel_rfl)) (by decide) (fun K hK => ?_)
  refine Kd.R_lit_step kAny _ 20 ?hg (N:=24) ?hd (xs := ([anyB t406,anyI 2,anyB true,anyI t407] : List AnyV)) (inner := [.iface 4 (.bool t406),.iface 3 (.int .i64 2),.iface 4 (.bool true),.iface 3 (.int .i64 t407)]) (ok := fun _ => True) (okp := fun _ => True) ?hr ?hp (fun _ hk => hk) trivial (Below.refl _ _) (Nat.le_refl _) (by simp) ?_; (case hd => rfl); (case hg => rfl); (case hr => first | (go_simp; done) | (go_simp; rfl)); (case hp => exact (Reps.one (show Kd.M kAny _ _ _ (anyB t406) [.iface 4 (.bool t406)] from rfl) (Reps.one (show Kd.M kAny _ _ _ (anyI 2) [.iface 3 (.int .i64 2)] from rfl) (Reps.one (show Kd.M kAny _ _ _ (anyB true) [.iface 4 (.bool true)] from rfl) (Reps.one (show Kd.M kAny _ _ _ (anyI t407) [.iface 3 (.int .i64 t407)] from rfl) (Reps.none _ _))))))
  intro v409 w18 ho19 hb hg_ hnew_
  clear hg_ hnew_
  (first | rw [← Ny408.out] at ho19 | (simp only [Int.reduceToNat] at ho19; rw [← Ny408.out] at ho19))
  replace HO405 := Aside0.mk (Kd.R_below (rA HO405.out) hb)
  have HO410 := Aside0.mk (Kd.R_lower ho19 (below_size bA))
  replace BK401 := Aside0.mk (bb BK401.out hb)
  replace BK402 := Aside0.mk (bb BK402.out hb)
  replace HB := Aside0.mk (below_step bA hb)
  clear hb ho19
  obtain ⟨Ao20,co20,eo20⟩ := Kd.R_slice HO410.out
  (first | subst eo20 | (injection eo20 with f1_ f2_ f3_; have f4_ := f1_.symm; have f5_ := f3_.symm; clear f1_ f2_ f3_; subst f4_; subst f5_))
  refine hK.out _ _ ⟨bl BK401 0,bl BK401 1⟩ (fun hHeld => ?_)
  clear hK K
  refine norm_ (a':=?_) ?_ ?_
  rotate_left
  ·show Act.put _ (some 24) _ = _
   simp only [Act.put,setIfInBounds_toArray,set_cons_zero,set_cons_succ,i64_w,i32_w]
   rfl
  refine one_ (i:=12) (N:=some 25) (bm 14 8191) rfl rfl (one_of HT_.out (by kernel_rfl)) (by decide) (fun K hK => ?_)
  refine goes_ Try.func23 (by kernel_rfl) rfl #[.slice Ao20 y408.length co20] (by rfl) rfl rfl mA ?_
  with_reducible refine (impl_first.calls k _ _ y408 t411 _ ?side1 ?side2 A6.out).mono ?_
  (case side1 => repeat (first | exact (Kd.R_reads' HO410.out).2.2 | (with_reducible refine Kd.C_alloc ?_ _) | (with_reducible refine Kd.C_drewN ?_ _) | (with_reducible refine Kd.C_drew ?_)))
  (case side2 => exact (Kd.R_reads' HO410.out).2.1)
  rintro e w' ⟨rfl,⟨nd,rfl⟩⟩
  refine ⟨_,rfl,?_⟩
  refine hK.out _ _ ⟨bl BK401 0,bl BK401 1⟩ (fun hHeld => ?_)
  clear hK K
  refine norm_ (a':=?_) ?_ ?_
  rotate_left
  ·show Act.put _ (some 25) _ = _
   simp only [Act.put,setIfInBounds_toArray,set_cons_zero,set_cons_succ,i64_w,i32_w]
   rfl
  refine pV_ 13 9 (bm 14 16383) HT_.out ?_
  refine done_ (done_of HT_.out (by kernel_rfl)) ?_
  have hnb21 := NB401_402.out
  have hnc21 := NB402_401.out
  obtain ⟨hcz22_0,hcz22_1⟩ := cl2 BK401.out
  obtain ⟨hfz22_0,hfz22_1⟩ := fz2 BK401.out
  try go_wp2_with (first | ((with_reducible refine gate_callee (f:=35) rfl ?_); refine goesL_ (some 34) rfl rfl Try.func35 (by kernel_rfl) rfl #[.agg #[.slice A0_0 l0_0.length c0_0,.int .i64 a0_1],.string a1,.string a2] rfl mA ?_; (with_reducible refine (impl_Store_putAbsent.calls k (fun k_ => k_ < w.heap.size) _ _ l0_0 a0_1 a1 a2 t412 t415 t416 t417 _ ?side1 A8.out).mono ?_); (case side1 => exact Kd.V_mk HC0_0.out (Kd.F_below (Kd.C_F k32_heap HR0_0.out) bA)); rintro e w23 ⟨v413,rfl,ho0,hb⟩; refine ⟨_,rfl,?_⟩; have HO414 := Aside0.mk (Kd.V_lower (Kd.V_mono (ok' := fun k_ => some k_ ≠ (.slice Ao15 y403.length co15 : Value).ownBlock ∧ some k_ ≠ (.slice Ao20 y408.length co20 : Value).ownBlock ∧ k_ ≠ gb401 ∧ k_ ≠ gb402) ho0 (fun k_ hk_ => ⟨Or.elim hk_ (fun hs_ => fun e_ => Nat.not_le.2 hs_ (Kd.R_base HO405.out k_ e_.symm)) (fun hn_ => (Kd.fresh' (Kd.R_lt (rA HO405.out)) k_ hn_)),Or.elim hk_ (fun hs_ => fun e_ => Nat.not_le.2 hs_ (Kd.R_base HO410.out k_ e_.symm)) (fun hn_ => (Kd.fresh' (Kd.R_lt (rA HO410.out)) k_ hn_)),Or.elim hk_ (fun hs_ => fun e_ => Nat.not_le.2 hs_ (by rw [e_]; exact GW401.out)) (fun hn_ => (fB BK401.out k_ hn_)),Or.elim hk_ (fun hs_ => fun e_ => Nat.not_le.2 hs_ (by rw [e_]; exact GW402.out)) (fun hn_ => (fB BK402.out k_ hn_))⟩)) (below_size bA)); replace HO405 := Aside0.mk (Kd.R_below (rA HO405.out) hb); replace HO410 := Aside0.mk (Kd.R_below (rA HO410.out) hb); replace BK401 := Aside0.mk (bb BK401.out hb); replace BK402 := Aside0.mk (bb BK402.out hb); replace HB := Aside0.mk (below_step bA hb); clear hb; (try clear ho0)) | ((with_reducible refine gate_dst (N:=10) rfl ?_); refine box_event ?hg (N:=10) ?hd (cs := #[.slice none 0 0,.int .i64 0]) (t:=25) ?hr ?_; (case hd => rfl); (case hg => rfl); (case hr => first | (go_simp; done) | (go_simp; rfl)); intro gb418 hg w24 hbox hb; replace HO405 := Aside0.mk (Kd.R_below (rA HO405.out) hb); replace HO410 := Aside0.mk (Kd.R_below (rA HO410.out) hb); replace HO414 := Aside0.mk (Kd.V_below (Kd.V_elderB (vA HO414.out) gb418 (Nat.le_of_eq hg.symm)) hb); have BK418 := Aside0.mk (hbox); have GW418 := Aside0.mk ((gw hg : w.heap.size ≤ gb418)); have GE418 := Aside0.mk ((gw hg : w.heap.size ≤ gb418)); replace HB := Aside0.mk (below_step bA hb); have NB401_418 := Aside0.mk ((nl hg BK401.out)); have NB418_401 := Aside0.mk ((ng hg BK401.out)); replace BK401 := Aside0.mk (bb BK401.out hb); have NB402_418 := Aside0.mk ((nl hg BK402.out)); have NB418_402 := Aside0.mk ((ng hg BK402.out)); replace BK402 := Aside0.mk (bb BK402.out hb); clear hb hbox hg; obtain ⟨Ao25,co25,eo25⟩ := Kd.V_slice HO414.out; subst eo25; have hnb26 := NB418_401.out; have hnc26 := NB401_418.out; have hnb27 := NB418_402.out; have hnc27 := NB402_418.out; obtain ⟨hcz28_0,hcz28_1⟩ := cl2 BK418.out; obtain ⟨hfz28_0,hfz28_1⟩ := fz2 BK418.out) | ((with_reducible refine gate_callee (f:=36) rfl ?_); refine goesL_ (some 39) rfl rfl Try.func36 (by kernel_rfl) rfl #[.agg #[.slice Ao25 t412.length co25,.int .i64 t415]] rfl mA ?_; (with_reducible refine (impl_Store_copied.calls _ _ t412 t415 t419 t422 _ ?side1 ?side2 A9.out).mono ?_); (case side1 => refine (Kd.V_reads' (e:=32) (base := w.heap.size) (ok := fun k_ => ((some k_ ≠ (.slice Ao15 y403.length co15 : Value).ownBlock ∧ (some k_ ≠ (.slice Ao20 y408.length co20 : Value).ownBlock ∧ (k_ ≠ gb401 ∧ k_ ≠ gb402))) ∧ k_ ≠ gb418)) (n:=t412.length) (c:=co25) ?_).2.2; exact (by (with_reducible repeat (first | apply Kd.V_alloc | apply Kd.V_drewN | apply Kd.V_drew)); exact (Kd.V_mono (Kd.V_far (p:=⟨gb418,1,none⟩) (Kd.V_far (p:=⟨gb418,0,none⟩) (Kd.V_mono HO414.out (fun k_ hk => (⟨hk,hk.2⟩ : _ ∧ k_ ≠ gb418))) (fun _ hk => hk.2) (.slice Ao25 t412.length co25)) (fun _ hk => hk.2) (.int .i64 t415)) (fun _ h_ => h_.1)))); (case side2 => exact (Kd.V_reads' HO414.out).2.1); rintro e w29 ⟨v420,rfl,ho0,hb⟩; refine ⟨_,rfl,?_⟩; replace HO405 := Aside0.mk (Kd.R_below (by (with_reducible repeat (first | apply Kd.R_alloc | apply Kd.R_drewN | apply Kd.R_drew)); exact (Kd.R_mono (Kd.R_far (p:=⟨gb418,1,none⟩) (Kd.R_far (p:=⟨gb418,0,none⟩) (Kd.R_types HO405.out BK418.out (by decide)) (fun _ hk => hk.2) (.slice Ao25 t412.length co25)) (fun _ hk => hk.2) (.int .i64 t415)) (fun _ h_ => h_.1))) hb); replace HO410 := Aside0.mk (Kd.R_below (by (with_reducible repeat (first | apply Kd.R_alloc | apply Kd.R_drewN | apply Kd.R_drew)); exact (Kd.R_mono (Kd.R_far (p:=⟨gb418,1,none⟩) (Kd.R_far (p:=⟨gb418,0,none⟩) (Kd.R_types HO410.out BK418.out (by decide)) (fun _ hk => hk.2) (.slice Ao25 t412.length co25)) (fun _ hk => hk.2) (.int .i64 t415)) (fun _ h_ => h_.1))) hb); replace HO414 := Aside0.mk (Kd.V_elder' (by (with_reducible repeat (first | apply Kd.V_alloc | apply Kd.V_drewN | apply Kd.V_drew)); exact (Kd.V_mono (Kd.V_far (p:=⟨gb418,1,none⟩) (Kd.V_far (p:=⟨gb418,0,none⟩) (Kd.V_mono HO414.out (fun k_ hk => (⟨hk,hk.2⟩ : _ ∧ k_ ≠ gb418))) (fun _ hk => hk.2) (.slice Ao25 t412.length co25)) (fun _ hk => hk.2) (.int .i64 t415)) (fun _ h_ => h_.1))) (Kd.R_base ho0) hb); have HO421 := Aside0.mk (Kd.R_lower ho0 (below_size bA)); replace BK401 := Aside0.mk (bc BK401.out hb); replace BK402 := Aside0.mk (bc BK402.out hb); replace BK418 := Aside0.mk (blk_below (g:=gb418) (o:=.cells #[.slice Ao25 t412.length co25,.int .i64 t415] 25 (0,0)) (by (with_reducible repeat (first | refine blk_drewN ?_ _ | refine blk_drew ?_ | refine blk_alloc ?_ _)); apply blkp2; (with_reducible repeat (first | refine blk_drewN ?_ _ | refine blk_drew ?_ | refine blk_alloc ?_ _)); exact BK418.out) hb); replace HB := Aside0.mk (below_step bA hb); clear hb; (try clear ho0); obtain ⟨Ao30,co30,eo30⟩ := Kd.R_slice HO421.out; subst eo30; obtain ⟨hcz31_0,hcz31_1⟩ := cl2 BK402.out; obtain ⟨hfz31_0,hfz31_1⟩ := fz2 BK402.out))
  refine bodyPost_ret (results_ctt rfl _ _ gb402 25 #[.slice Ao30 t419.length co30,.int .i64 t422] (0,0) _ rfl (by (with_reducible repeat (first | refine blk_drewN ?_ _ | refine blk_drew ?_ | refine blk_alloc ?_ _)); apply blkp2; (with_reducible repeat (first | refine blk_drewN ?_ _ | refine blk_drew ?_ | refine blk_alloc ?_ _)); exact BK402.out) Try.underlying25 rfl (by kernel_rfl)) rfl ?_
  exact ⟨_,by first | rfl | (simp [errW_none,errW_some] <;> rfl) | (simp [*,errW_none,errW_some] <;> rfl),by (with_reducible repeat (first | apply Kd.R_alloc | apply Kd.R_drewN | apply Kd.R_drew)); exact Kd.R_mono (Kd.R_far (p:=⟨gb402,1,none⟩) (Kd.R_far (p:=⟨gb402,0,none⟩) (Kd.R_types HO421.out BK402.out (by decide)) (fun _ hk => hk.2) (.slice Ao30 t419.length co30)) (fun _ hk => hk.2) (.int .i64 t422)) (fun _ hk => trivial),bA⟩
 ·rw [if_neg c7] at H
  have c7b0 : (t411 == 0) = false := beq_eq_false_iff_ne.mpr c7
  have c7b1 : (t411 != 0) = true := bne_iff_ne.mpr c7
  simp only [Option.some.injEq,Prod.mk.injEq] at H
  obtain ⟨rfl,rfl,rfl,rfl⟩ := H
  go_enter Try.func12,Try.ntmps12
  try go_wp2_with (first | ((with_reducible refine gate_dst (N:=3) rfl ?_); refine box_event ?hg (N:=3) ?hd (cs := #[.slice A0_0 l0_0.length c0_0,.int .i64 a0_1]) (t:=25) ?hr ?_; (case hd => rfl); (case hg => rfl); (case hr => first | (go_simp; done) | (go_simp; rfl)); intro gb401 hg w32 hbox hb; have BK401 := Aside0.mk (hbox); have GW401 := Aside0.mk ((gw hg : w.heap.size ≤ gb401)); have GE401 := Aside0.mk ((gw hg : w.heap.size ≤ gb401)); replace HB := Aside0.mk (below_step bA hb); clear hb hbox hg) | ((with_reducible refine gate_dst (N:=6) rfl ?_); refine box_event ?hg (N:=6) ?hd (cs := #[.slice none 0 0,.int .i64 0]) (t:=25) ?hr ?_; (case hd => rfl); (case hg => rfl); (case hr => first | (go_simp; done) | (go_simp; rfl)); intro gb402 hg w33 hbox hb; have BK402 := Aside0.mk (hbox); have GW402 := Aside0.mk ((gw hg : w.heap.size ≤ gb402)); have GE402 := Aside0.mk ((gw hg : w.heap.size ≤ gb402)); replace HB := Aside0.mk (below_step bA hb); have NB401_402 := Aside0.mk ((nl hg BK401.out)); have NB402_401 := Aside0.mk ((ng hg BK401.out)); replace BK401 := Aside0.mk (bb BK401.out hb); clear hb hbox hg))
  replace BK401 := Aside0.mk (blk_drew BK401.out)
  replace BK402 := Aside0.mk (blk_drew BK402.out)
  replace HB := Aside0.mk (below_drew1 HB.out)
  refine start_ (n:=14) (S:=fun w' => w'.cell? ⟨gb401,0,none⟩ = some (.slice A0_0 l0_0.length c0_0) ∧ w'.cell? ⟨gb401,1,none⟩ = some (.int .i64 a0_1)) (ds := []) (bm 14 0) (by kernel_rfl) rfl rfl ⟨bl BK401 0,bl BK401 1⟩ (fun hHeld => ?_); refine with_tabW impl_PutAbsent.tab1 impl_PutAbsent.bits1 (fun HT_ HW_ => ?_)
  generalize w33.drew = w34 at BK401 BK402 HB hHeld ⊢
  refine pV_ 0 13 (bm 14 1) HT_.out ?_
  refine pV_ 1 14 (bm 14 3) HT_.out ?_
  refine pV_ 5 18 (bm 14 35) HT_.out ?_
  refine pV_ 6 19 (bm 14 99) HT_.out ?_
  refine pV_ 8 21 (bm 14 355) HT_.out ?_
  refine take_ (i:=7) (N:=some 20) (v:=?_) (a':=?_) (bm 14 483) rfl rfl (take_ofW HT_.out HW_.out (by kernel_rfl)) (fun _ _ _ h => h) (Or.inl ⟨by rfl,?_⟩) hHeld ?_ ?_
  rotate_left
  ·rintro w' ⟨s0,s1⟩
   go_simp
   with_reducible rfl
  rotate_left
  ·simp only [Act.put,setIfInBounds_toArray,set_cons_zero,set_cons_succ,i64_w,i32_w]
   rfl
  refine one_ (i:=2) (N:=some 15) (bm 14 487) rfl rfl (one_of HT_.out (by kernel_rfl)) (by decide) (fun K hK => ?_)
  refine Kd.R_lit_step Kd.string _ 9 ?hg (N:=15) ?hd (xs := ([a1,a2] : List ByteArray)) (inner := [.string a1,.string a2]) (ok := fun _ => True) (okp := fun _ => True) ?hr ?hp (fun _ hk => hk) trivial (Below.refl _ _) (Nat.le_refl _) (by simp) ?_; (case hd => rfl); (case hg => rfl); (case hr => first | (go_simp; done) | (go_simp; rfl)); (case hp => exact (Reps.one (show Kd.M Kd.string _ _ _ a1 [.string a1] from rfl) (Reps.one (show Kd.M Kd.string _ _ _ a2 [.string a2] from rfl) (Reps.none _ _))))
  intro v404 w35 ho36 hb hg_ hnew_
  clear hg_ hnew_
  (first | rw [← Ny403.out] at ho36 | (simp only [Int.reduceToNat] at ho36; rw [← Ny403.out] at ho36))
  have HO405 := Aside0.mk (Kd.R_lower ho36 (below_size bA))
  replace BK401 := Aside0.mk (bb BK401.out hb)
  replace BK402 := Aside0.mk (bb BK402.out hb)
  replace HB := Aside0.mk (below_step bA hb)
  clear hb ho36
  obtain ⟨Ao37,co37,eo37⟩ := Kd.R_slice HO405.out
  (first | subst eo37 | (injection eo37 with f1_ f2_ f3_; have f4_ := f1_.symm; have f5_ := f3_.symm; clear f1_ f2_ f3_; subst f4_; subst f5_))
  refine hK.out _ _ ⟨bl BK401 0,bl BK401 1⟩ (fun hHeld => ?_)
  clear hK K
  refine norm_ (a':=?_) ?_ ?_
  rotate_left
  ·show Act.put _ (some 15) _ = _
   simp only [Act.put,setIfInBounds_toArray,set_cons_zero,set_cons_succ,i64_w,i32_w]
   rfl
  refine one_ (i:=3) (N:=some 16) (bm 14 495) rfl rfl (one_of HT_.out (by kernel_rfl)) (by decide) (fun K hK => ?_)
  refine goes_ Try.func24 (by kernel_rfl) rfl #[.slice Ao37 y403.length co37] (by rfl) rfl rfl mA ?_
  with_reducible refine (impl_isLong.calls _ _ y403 t406 _ ?side1 ?side2 A4.out).mono ?_
  (case side1 => repeat (first | exact (Kd.R_reads' HO405.out).2.2 | (with_reducible refine Kd.C_alloc ?_ _) | (with_reducible refine Kd.C_drewN ?_ _) | (with_reducible refine Kd.C_drew ?_)))
  (case side2 => exact (Kd.R_reads' HO405.out).2.1)
  rintro e w38 ⟨rfl,hb⟩
  refine ⟨_,rfl,?_⟩
  replace HO405 := Aside0.mk (Kd.R_below (rA HO405.out) hb)
  replace BK401 := Aside0.mk (bb BK401.out hb)
  replace BK402 := Aside0.mk (bb BK402.out hb)
  replace HB := Aside0.mk (below_step bA hb)
  clear hb
  refine hK.out _ _ ⟨bl BK401 0,bl BK401 1⟩ (fun hHeld => ?_)
  clear hK K
  refine norm_ (a':=?_) ?_ ?_
  rotate_left
  ·show Act.put _ (some 16) _ = _
   simp only [Act.put,setIfInBounds_toArray,set_cons_zero,set_cons_succ,i64_w,i32_w]
   rfl
  refine pV_ 4 17 (bm 14 511) HT_.out ?_
  refine one_ (i:=9) (N:=some 22) (bm 14 1023) rfl rfl (one_of HT_.out (by kernel_rfl)) (by decide) (fun K hK => ?_)
  refine goes_ Try.func34 (by kernel_rfl) rfl #[.agg #[.slice A0_0 l0_0.length c0_0,.int .i64 a0_1],.string a1] (by rfl) rfl rfl mA ?_
  with_reducible refine (impl_storeCode.calls k _ _ l0_0 a0_1 a1 t407 _ ?side1 ?side2 A5.out).mono ?_
  (case side1 => exact sC HR0_0.out)
  (case side2 => exact HC0_0.out)
  rintro e w39 ⟨rfl,hb⟩
  refine ⟨_,rfl,?_⟩
  replace HO405 := Aside0.mk (Kd.R_below (rA HO405.out) hb)
  replace BK401 := Aside0.mk (bb BK401.out hb)
  replace BK402 := Aside0.mk (bb BK402.out hb)
  replace HB := Aside0.mk (below_step bA hb)
  clear hb
  refine hK.out _ _ ⟨bl BK401 0,bl BK401 1⟩ (fun hHeld => ?_)
  clear hK K
  refine norm_ (a':=?_) ?_ ?_
  rotate_left
  ·show Act.put _ (some 22) _ = _
   simp only [Act.put,setIfInBounds_toArray,set_cons_zero,set_cons_succ,i64_w,i32_w]
   rfl
  refine pV_ 10 23 (bm 14 2047) HT_.out ?_
  refine one_ (i:=11) (N:=some 24) (bm 14 4095) rfl rfl (one_of HT_.out (by kernel_rfl)) (by decide) (fun K hK => ?_)
  refine Kd.R_lit_step kAny _ 20 ?hg (N:=24) ?hd (xs := ([anyB t406,anyI 2,anyB true,anyI t407] : List AnyV)) (inner := [.iface 4 (.bool t406),.iface 3 (.int .i64 2),.iface 4 (.bool true),.iface 3 (.int .i64 t407)]) (ok := fun _ => True) (okp := fun _ => True) ?hr ?hp (fun _ hk => hk) trivial (Below.refl _ _) (Nat.le_refl _) (by simp) ?_; (case hd => rfl); (case hg => rfl); (case hr => first | (go_simp; done) | (go_simp; rfl)); (case hp => exact (Reps.one (show Kd.M kAny _ _ _ (anyB t406) [.iface 4 (.bool t406)] from rfl) (Reps.one (show Kd.M kAny _ _ _ (anyI 2) [.iface 3 (.int .i64 2)] from rfl) (Reps.one (show Kd.M kAny _ _ _ (anyB true) [.iface 4 (.bool true)] from rfl) (Reps.one (show Kd.M kAny _ _ _ (anyI t407) [.iface 3 (.int .i64 t407)] from rfl) (Reps.none _ _))))))
  intro v409 w40 ho41 hb hg_ hnew_
  clear hg_ hnew_
  (first | rw [← Ny408.out] at ho41 | (simp only [Int.reduceToNat] at ho41; rw [← Ny408.out] at ho41))
  replace HO405 := Aside0.mk (Kd.R_below (rA HO405.out) hb)
  have HO410 := Aside0.mk (Kd.R_lower ho41 (below_size bA))
  replace BK401 := Aside0.mk (bb BK401.out hb)
  replace BK402 := Aside0.mk (bb BK402.out hb)
  replace HB := Aside0.mk (below_step bA hb)
  clear hb ho41
  obtain ⟨Ao42,co42,eo42⟩ := Kd.R_slice HO410.out
  (first | subst eo42 | (injection eo42 with f1_ f2_ f3_; have f4_ := f1_.symm; have f5_ := f3_.symm; clear f1_ f2_ f3_; subst f4_; subst f5_))
  refine hK.out _ _ ⟨bl BK401 0,bl BK401 1⟩ (fun hHeld => ?_)
  clear hK K
  refine norm_ (a':=?_) ?_ ?_
  rotate_left
  ·show Act.put _ (some 24) _ = _
   simp only [Act.put,setIfInBounds_toArray,set_cons_zero,set_cons_succ,i64_w,i32_w]
   rfl
  refine one_ (i:=12) (N:=some 25) (bm 14 8191) rfl rfl (one_of HT_.out (by kernel_rfl)) (by decide) (fun K hK => ?_)
  refine goes_ Try.func23 (by kernel_rfl) rfl #[.slice Ao42 y408.length co42] (by rfl) rfl rfl mA ?_
  with_reducible refine (impl_first.calls k _ _ y408 t411 _ ?side1 ?side2 A6.out).mono ?_
  (case side1 => repeat (first | exact (Kd.R_reads' HO410.out).2.2 | (with_reducible refine Kd.C_alloc ?_ _) | (with_reducible refine Kd.C_drewN ?_ _) | (with_reducible refine Kd.C_drew ?_)))
  (case side2 => exact (Kd.R_reads' HO410.out).2.1)
  rintro e w' ⟨rfl,⟨nd,rfl⟩⟩
  refine ⟨_,rfl,?_⟩
  refine hK.out _ _ ⟨bl BK401 0,bl BK401 1⟩ (fun hHeld => ?_)
  clear hK K
  refine norm_ (a':=?_) ?_ ?_
  rotate_left
  ·show Act.put _ (some 25) _ = _
   simp only [Act.put,setIfInBounds_toArray,set_cons_zero,set_cons_succ,i64_w,i32_w]
   rfl
  refine pV_ 13 9 (bm 14 16383) HT_.out ?_
  refine done_ (done_of HT_.out (by kernel_rfl)) ?_
  have hnb43 := NB402_401.out
  have hnc43 := NB401_402.out
  obtain ⟨hcz44_0,hcz44_1⟩ := cl2 BK402.out
  obtain ⟨hfz44_0,hfz44_1⟩ := fz2 BK402.out
  try go_wp2
  refine bodyPost_ret (results_ctt rfl _ _ gb402 25 #[.slice none 0 0,.int .i64 0] (0,0) _ rfl (by (with_reducible repeat (first | refine blk_drewN ?_ _ | refine blk_drew ?_ | refine blk_alloc ?_ _)); apply blkp2; (with_reducible repeat (first | refine blk_drewN ?_ _ | refine blk_drew ?_ | refine blk_alloc ?_ _)); exact BK402.out) Try.underlying25 rfl (by kernel_rfl)) rfl ?_
  exact ⟨_,by first | rfl | (simp [errW_none,errW_some] <;> rfl) | (simp [*,errW_none,errW_some] <;> rfl),by first | exact Kd.R_nil _ _ _ _ _ | exact Kd.N_nil _ _ _ _ _ | exact Kd.V_nil _ _ _ _ _ | exact Kd.Q_nil _ _ _ _ _ | exact Kd.S_nil _ _ _ _ _,bA⟩

end Go.Proofs.Ytgkfemnfbkgeiaa.XFnCas
