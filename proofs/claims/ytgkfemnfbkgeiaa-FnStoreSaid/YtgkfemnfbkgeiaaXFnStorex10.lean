-- Printed by this session's own program wip/tools/xprint.py, which widens the kit's print. Not trusted: Lean checks it.
import Derived.Test.YtgkfemnfbkgeiaaXFnStorex0
import Derived.Test.YtgkfemnfbkgeiaaXFnStorex6
import Derived.Test.YtgkfemnfbkgeiaaXFnStorex8
import Derived.Test.YtgkfemnfbkgeiaaXFnStorex9
namespace Go.Proofs.Ytgkfemnfbkgeiaa.XFnStore
open List (setIfInBounds_toArray set_cons_zero set_cons_succ)
open Go.RowKit Go.Proofs.YtgkfemnfbkgeiaaW.PrintWords Go.Proofs.YtgkfemnfbkgeiaaW.PrintLast Go.Proofs.YtgkfemnfbkgeiaaW.PrintMore
attribute [local go_sem] max2_int min2_int max_two min_two max_three min_three max_four min_four   -- for this text's walks alone
set_option linter.unusedVariables false
set_option linter.unusedSimpArgs false

/-! ### impl_Store_putAbsent: function 35 -/
def impl_Store_putAbsent.f (k : Nat) (l0_0 : List (S32)) (a0_1 : Int) (a1 : ByteArray) (a2 : ByteArray) : Option ((List (S32)) × Int × Int × Int) := (impl_Store_find.f l0_0 a0_1 a1).bind fun bt395 => (if bt395.2 = true then (some (l0_0,a0_1,0,9)) else ((impl_Store_put.f k l0_0 a0_1 a1 a2).bind fun bt397 => (some (bt397.1,bt397.2.1,bt397.2.2.1,bt397.2.2.2))))
theorem impl_Store_putAbsent.mono : ∀ a0 a1 a2 a3 k,LeO (impl_Store_putAbsent.f k a0 a1 a2 a3) (impl_Store_putAbsent.f (k + 1) a0 a1 a2 a3) := by
 intro a0 a1 a2 a3 k
 unfold impl_Store_putAbsent.f
 repeat' first
 | (with_reducible first | exact impl_Store_put.mono .. | exact LeO.refl _ | exact LeO.none _ | refine LeO.ite ?_ ?_ | refine LeO.bind ?_ (fun _ => ?_))
 | exact LeO.none _ | refine LeO.ite ?_ ?_ | refine LeO.bind ?_ (fun _ => ?_)
set_option maxHeartbeats 8000000 in
set_option maxRecDepth 100000 in
theorem impl_Store_putAbsent.calls (k : Nat) (P0_0_ : Nat → Prop) (A0_0 : Option Addr) (c0_0 : Nat) (l0_0 : List (S32)) (a0_1 : Int) (a1 : ByteArray) (a2 : ByteArray) (r1 : List (S32)) (r2 : Int) (r3 : Int) (r4 : Int) (w : World) (hs0_0 : Kd.V k32 32 w w.heap.size (fun k_ => P0_0_ k_) (.slice A0_0 l0_0.length c0_0) l0_0) (h : impl_Store_putAbsent.f k l0_0 a0_1 a1 a2 = some (r1,r2,r3,r4)) :
  Calls Try.prog 35 #[.agg #[.slice A0_0 l0_0.length c0_0,.int .i64 a0_1],.string a1,.string a2] w fun e w' => ∃ v0_ : Value,e = .returned (.tuple #[.agg #[v0_,.int .i64 r2],.int .i64 r3,.int .i64 r4]) ∧ Kd.V k32 32 w' w.heap.size (fun k_ => (P0_0_ k_ ∨ w.heap.size ≤ k_)) v0_ r1 ∧ Below w.heap.size w w' := by
 have hu25 := Try.underlying25
 have HO0_0 := Aside0.mk (show Kd.V k32 32 w w.heap.size (fun k_ => (P0_0_ k_ ∨ w.heap.size ≤ k_)) (.slice A0_0 l0_0.length c0_0) l0_0 from Kd.V_mono hs0_0 (fun k_ hk => .inl hk))
 have HB := Aside0.mk (Below.refl w.heap.size w)
 have H : ((impl_Store_find.f l0_0 a0_1 a1).bind fun bt395 => (if bt395.2 = true then (some (l0_0,a0_1,0,9)) else ((impl_Store_put.f k l0_0 a0_1 a1 a2).bind fun bt397 => (some (bt397.1,bt397.2.1,bt397.2.2.1,bt397.2.2.2))))) = some (r1,r2,r3,r4) := h
 clear h
 replace H := Option.bind_eq_some_iff.mp H
 obtain ⟨⟨t395,t396⟩,A40,H⟩ := H
 try dsimp only at H
 have A4 := Aside0.mk A40
 clear A40
 by_cases c5 : t396 = true
 ·subst c5
  rw [if_pos rfl] at H
  simp only [Option.some.injEq,Prod.mk.injEq] at H
  obtain ⟨rfl,rfl,rfl,rfl⟩ := H
  go_enter Try.func35,Try.ntmps35
  go_wp2_with (first | ((with_reducible refine gate_dst (N:=3) rfl ?_); refine bxe (N:=3) (cs := #[.slice A0_0 l0_0.length c0_0,.int .i64 a0_1]) (t:=25) ?_; intro gb393 hg w6 hbox hb; replace HO0_0 := Aside0.mk (Kd.V_below (Kd.V_elderB (vA HO0_0.out) gb393 (Nat.le_of_eq hg.symm)) hb); have BK393 := Aside0.mk (hbox); have GW393 := Aside0.mk ((gw hg : w.heap.size ≤ gb393)); have GE393 := GW393; replace HB := bsA hb; clear hb hbox hg) | ((with_reducible refine gate_dst (N:=6) rfl ?_); refine bxe (N:=6) (cs := #[.slice none 0 0,.int .i64 0]) (t:=25) ?_; intro gb394 hg w7 hbox hb; replace HO0_0 := Aside0.mk (Kd.V_below (Kd.V_elderB (vA HO0_0.out) gb394 (Nat.le_of_eq hg.symm)) hb); have BK394 := Aside0.mk (hbox); have GW394 := Aside0.mk ((gw hg : w.heap.size ≤ gb394)); have GE394 := GW394; replace HB := bsA hb; have NB393_394 := Aside0.mk ((nl hg BK393.out)); have NB394_393 := Aside0.mk ((ng hg BK393.out)); replace BK393 := bbA BK393 hb; clear hb hbox hg; have hnb8 := NB393_394.out; have hnc8 := NB394_393.out; obtain ⟨hcz9_0,hcz9_1⟩ := cl2 BK393.out; obtain ⟨hfz9_0,hfz9_1⟩ := fz2 BK393.out) | ((with_reducible refine gate_callee (f:=40) rfl ?_); refine goesL_ (some 14) rfl rfl Try.func40 (by kernel_rfl) rfl #[.agg #[.slice A0_0 l0_0.length c0_0,.int .i64 a0_1],.string a1] rfl mA ?_; (with_reducible refine (impl_Store_find.calls _ _ l0_0 a0_1 a1 t395 true _ ?side1 ?side2 A4.out).mono ?_); (case side1 => repeat (first | exact (Kd.V_reads' HO0_0.out).2.2 | (with_reducible refine Kd.C_alloc ?_ _) | (with_reducible refine Kd.C_drewN ?_ _) | (with_reducible refine Kd.C_drew ?_))); (case side2 => exact (Kd.V_reads' HO0_0.out).2.1); rintro e w10 ⟨rfl,hb⟩; refine ⟨_,rfl,?_⟩; replace HO0_0 := Aside0.mk (Kd.V_below (vA HO0_0.out) hb); replace BK393 := bbA BK393 hb; replace BK394 := bbA BK394 hb; replace HB := bsA hb; clear hb; obtain ⟨hcz11_0,hcz11_1⟩ := cl2 BK393.out; obtain ⟨hfz11_0,hfz11_1⟩ := fz2 BK393.out; obtain ⟨hcz12_0,hcz12_1⟩ := cl2 BK394.out; obtain ⟨hfz12_0,hfz12_1⟩ := fz2 BK394.out))
  refine bodyPost_ret (results_ctt rfl _ _ gb394 25 #[.slice A0_0 l0_0.length c0_0,.int .i64 a0_1] (0,0) _ rfl (kP2 BK394.out) Try.underlying25 rfl (by kernel_rfl)) rfl ?_
  exact ⟨_,by first | rfl | (simp [errW_none,errW_some] <;> rfl) | (simp [*,errW_none,errW_some] <;> rfl),by (with_reducible repeat (first | apply Kd.V_alloc | apply Kd.V_drewN | apply Kd.V_drew)); exact Kd.V_mono (Kd.V_far (p:=⟨gb394,1,none⟩) (Kd.V_far (p:=⟨gb394,0,none⟩) (Kd.V_mono HO0_0.out (fun k_ hk => (⟨hk,hk.2⟩ : _ ∧ k_ ≠ gb394))) (fun _ hk => hk.2) (.slice A0_0 l0_0.length c0_0)) (fun _ hk => hk.2) (.int .i64 a0_1)) (fun _ hk => hk.1.1.1),bA⟩
 ·replace c5 := Bool.eq_false_iff.mpr c5
  subst c5
  rw [if_neg (show ¬ (false = true) by decide)] at H
  replace H := Option.bind_eq_some_iff.mp H
  obtain ⟨⟨t397,t400,t401,t402⟩,A130,H⟩ := H
  try dsimp only at H
  have A13 := Aside0.mk A130
  clear A130
  simp only [Option.some.injEq,Prod.mk.injEq] at H
  obtain ⟨rfl,rfl,rfl,rfl⟩ := H
  go_enter Try.func35,Try.ntmps35
  go_wp2_with (first | ((with_reducible refine gate_dst (N:=3) rfl ?_); refine bxe (N:=3) (cs := #[.slice A0_0 l0_0.length c0_0,.int .i64 a0_1]) (t:=25) ?_; intro gb393 hg w14 hbox hb; replace HO0_0 := Aside0.mk (Kd.V_below (Kd.V_elderB (vA HO0_0.out) gb393 (Nat.le_of_eq hg.symm)) hb); have BK393 := Aside0.mk (hbox); have GW393 := Aside0.mk ((gw hg : w.heap.size ≤ gb393)); have GE393 := GW393; replace HB := bsA hb; clear hb hbox hg) | ((with_reducible refine gate_dst (N:=6) rfl ?_); refine bxe (N:=6) (cs := #[.slice none 0 0,.int .i64 0]) (t:=25) ?_; intro gb394 hg w15 hbox hb; replace HO0_0 := Aside0.mk (Kd.V_below (Kd.V_elderB (vA HO0_0.out) gb394 (Nat.le_of_eq hg.symm)) hb); have BK394 := Aside0.mk (hbox); have GW394 := Aside0.mk ((gw hg : w.heap.size ≤ gb394)); have GE394 := GW394; replace HB := bsA hb; have NB393_394 := Aside0.mk ((nl hg BK393.out)); have NB394_393 := Aside0.mk ((ng hg BK393.out)); replace BK393 := bbA BK393 hb; clear hb hbox hg; have hnb16 := NB393_394.out; have hnc16 := NB394_393.out; obtain ⟨hcz17_0,hcz17_1⟩ := cl2 BK393.out; obtain ⟨hfz17_0,hfz17_1⟩ := fz2 BK393.out) | ((with_reducible refine gate_callee (f:=40) rfl ?_); refine goesL_ (some 14) rfl rfl Try.func40 (by kernel_rfl) rfl #[.agg #[.slice A0_0 l0_0.length c0_0,.int .i64 a0_1],.string a1] rfl mA ?_; (with_reducible refine (impl_Store_find.calls _ _ l0_0 a0_1 a1 t395 false _ ?side1 ?side2 A4.out).mono ?_); (case side1 => repeat (first | exact (Kd.V_reads' HO0_0.out).2.2 | (with_reducible refine Kd.C_alloc ?_ _) | (with_reducible refine Kd.C_drewN ?_ _) | (with_reducible refine Kd.C_drew ?_))); (case side2 => exact (Kd.V_reads' HO0_0.out).2.1); rintro e w18 ⟨rfl,hb⟩; refine ⟨_,rfl,?_⟩; replace HO0_0 := Aside0.mk (Kd.V_below (vA HO0_0.out) hb); replace BK393 := bbA BK393 hb; replace BK394 := bbA BK394 hb; replace HB := bsA hb; clear hb; obtain ⟨hcz19_0,hcz19_1⟩ := cl2 BK393.out; obtain ⟨hfz19_0,hfz19_1⟩ := fz2 BK393.out) | ((with_reducible refine gate_callee (f:=44) rfl ?_); refine goesL_ (some 22) rfl rfl Try.func44 (by kernel_rfl) rfl #[.agg #[.slice A0_0 l0_0.length c0_0,.int .i64 a0_1],.string a1,.string a2] rfl mA ?_; (with_reducible refine (impl_Store_put.calls k (fun k_ => (((P0_0_ k_ ∨ w.heap.size ≤ k_) ∧ k_ ≠ gb393) ∧ k_ ≠ gb394)) _ _ l0_0 a0_1 a1 a2 t397 t400 t401 t402 _ ?side1 A13.out).mono ?_); (case side1 => exact HO0_0.out); rintro e w20 ⟨v398,rfl,ho0,hb⟩; refine ⟨_,rfl,?_⟩; replace HO0_0 := Aside0.mk (Kd.V_below (vA HO0_0.out) hb); have HO399 := Aside0.mk (Kd.V_lower (Kd.V_mono (ok' := fun k_ => (P0_0_ k_ ∨ w.heap.size ≤ k_) ∧ k_ ≠ gb393 ∧ k_ ≠ gb394) ho0 (fun k_ hk_ => ⟨Or.elim hk_ (fun hs_ => hs_.1.1) (fun hn_ => (.inr (Nat.le_trans (below_size bA) hn_))),Or.elim hk_ (fun hs_ => hs_.1.2) (fun hn_ => (fB BK393.out k_ hn_)),Or.elim hk_ (fun hs_ => hs_.2) (fun hn_ => (fB BK394.out k_ hn_))⟩)) (below_size bA)); replace BK393 := bbA BK393 hb; replace BK394 := bbA BK394 hb; replace HB := bsA hb; clear hb; (try clear ho0); obtain ⟨Ao21,co21,eo21⟩ := Kd.V_slice HO399.out; subst eo21; obtain ⟨hcz22_0,hcz22_1⟩ := cl2 BK394.out; obtain ⟨hfz22_0,hfz22_1⟩ := fz2 BK394.out))
  refine bodyPost_ret (results_ctt rfl _ _ gb394 25 #[.slice Ao21 t397.length co21,.int .i64 t400] (0,0) _ rfl (kP2 BK394.out) Try.underlying25 rfl (by kernel_rfl)) rfl ?_
  exact ⟨_,by first | rfl | (simp [errW_none,errW_some] <;> rfl) | (simp [*,errW_none,errW_some] <;> rfl),by (with_reducible repeat (first | apply Kd.V_alloc | apply Kd.V_drewN | apply Kd.V_drew)); exact Kd.V_mono (Kd.V_far (p:=⟨gb394,1,none⟩) (Kd.V_far (p:=⟨gb394,0,none⟩) (Kd.V_mono HO399.out (fun k_ hk => (⟨hk,hk.2.2⟩ : _ ∧ k_ ≠ gb394))) (fun _ hk => hk.2) (.slice Ao21 t397.length co21)) (fun _ hk => hk.2) (.int .i64 t400)) (fun _ hk => hk.1.1),bA⟩

/-! ### impl_PutAbsent: function 12 -/
def impl_PutAbsent.f (k : Nat) (l0_0 : List (S32)) (a0_1 : Int) (a1 : ByteArray) (a2 : ByteArray) : Option ((List (S32)) × Int × Int × Int) := (impl_isLong.f (([a1,a2] : List ByteArray))).bind fun t408 => ((impl_storeCode.f k l0_0 a0_1 a1).bind fun t409 => ((impl_first.f k (([anyB t408,anyI 2,anyB true,anyI t409] : List AnyV))).bind fun t413 => (if t413 = 0 then ((impl_Store_putAbsent.f k l0_0 a0_1 a1 a2).bind fun bt414 => ((impl_Store_copied.f bt414.1 bt414.2.1).bind fun bt421 => (some (bt421.1,bt421.2,bt414.2.2.1,bt414.2.2.2)))) else (some (([] : List (S32)),0,0,t413)))))
theorem impl_PutAbsent.mono : ∀ a0 a1 a2 a3 k,LeO (impl_PutAbsent.f k a0 a1 a2 a3) (impl_PutAbsent.f (k + 1) a0 a1 a2 a3) := by
 intro a0 a1 a2 a3 k
 unfold impl_PutAbsent.f
 repeat' first
 | (with_reducible first | exact impl_Store_putAbsent.mono .. | exact impl_first.mono .. | exact impl_storeCode.mono .. | exact LeO.refl _ | exact LeO.none _ | refine LeO.ite ?_ ?_ | refine LeO.bind ?_ (fun _ => ?_))
 | exact LeO.none _ | refine LeO.ite ?_ ?_ | refine LeO.bind ?_ (fun _ => ?_)
def impl_PutAbsent.T1 : Bool × List (List Nat × List Nat) := (true,[([],[]),([],[]),([0,1],[0,1]),([2],[2]),([3],[3]),([],[]),([],[]),([],[]),([],[]),([7,8,3],[7,8]),([9],[9]),([4,5,6,10],[4,5,6,10]),([11,9],[11]),([12,12,0,1,2,3,4,5,6,7,8,9,10,11,12],[12])])
def impl_PutAbsent.B1 : List Nat := [0,0,3,7,15,0,0,0,0,399,911,2047,4095,8191]
theorem impl_PutAbsent.tab1 : rtab .any (opsOf Try.f12 1) = impl_PutAbsent.T1 := by kernel_rfl
theorem impl_PutAbsent.bits1 : waitsOk impl_PutAbsent.T1.2 impl_PutAbsent.B1 = true := by kernel_rfl
set_option maxHeartbeats 8000000 in
set_option maxRecDepth 100000 in
theorem impl_PutAbsent.calls (k : Nat) (A0_0 : Option Addr) (c0_0 : Nat) (l0_0 : List (S32)) (a0_1 : Int) (a1 : ByteArray) (a2 : ByteArray) (r1 : List (S32)) (r2 : Int) (r3 : Int) (r4 : Int) (w : World) (hr0_0 : Kd.C k32 w A0_0 l0_0.length l0_0) (hc0_0 : l0_0.length ≤ c0_0) (h : impl_PutAbsent.f k l0_0 a0_1 a1 a2 = some (r1,r2,r3,r4)) :
  Calls Try.prog 12 #[.agg #[.slice A0_0 l0_0.length c0_0,.int .i64 a0_1],.string a1,.string a2] w fun e w' => ∃ v0_ : Value,e = .returned (.tuple #[.agg #[v0_,.int .i64 r2],.int .i64 r3,.int .i64 r4]) ∧ Kd.R k32 32 w' w.heap.size (fun _ => True) v0_ r1 ∧ Below w.heap.size w w' := by
 have hu25 := Try.underlying25
 have hua20 := Try.underlying20
 have HR0_0 := Aside0.mk hr0_0
 have HC0_0 := Aside0.mk hc0_0
 clear hr0_0 hc0_0
 have HB := Aside0.mk (Below.refl w.heap.size w)
 have H : ((impl_isLong.f (([a1,a2] : List ByteArray))).bind fun t408 => ((impl_storeCode.f k l0_0 a0_1 a1).bind fun t409 => ((impl_first.f k (([anyB t408,anyI 2,anyB true,anyI t409] : List AnyV))).bind fun t413 => (if t413 = 0 then ((impl_Store_putAbsent.f k l0_0 a0_1 a1 a2).bind fun bt414 => ((impl_Store_copied.f bt414.1 bt414.2.1).bind fun bt421 => (some (bt421.1,bt421.2,bt414.2.2.1,bt414.2.2.2)))) else (some (([] : List (S32)),0,0,t413)))))) = some (r1,r2,r3,r4) := h
 clear h
 obtain ⟨y405,hy405⟩ : ∃ y_ : List ByteArray,y_ = (([a1,a2] : List ByteArray)) := ⟨_,rfl⟩
 replace H : ((impl_isLong.f y405).bind fun t408 => ((impl_storeCode.f k l0_0 a0_1 a1).bind fun t409 => ((impl_first.f k (([anyB t408,anyI 2,anyB true,anyI t409] : List AnyV))).bind fun t413 => (if t413 = 0 then ((impl_Store_putAbsent.f k l0_0 a0_1 a1 a2).bind fun bt414 => ((impl_Store_copied.f bt414.1 bt414.2.1).bind fun bt421 => (some (bt421.1,bt421.2,bt414.2.2.1,bt414.2.2.2)))) else (some (([] : List (S32)),0,0,t413)))))) = some (r1,r2,r3,r4) := by first | (rw [hy405]; with_reducible exact H) | (have H2_ := (Option.bind_some _ _).symm.trans H; rw [hy405]; with_reducible exact H2_) | (have H2_ := (Option.bind_some _ _).symm.trans H; with_reducible exact H2_) | with_reducible exact H | (rw [hy405]; exact H) | exact H
 have Ny405 := Aside0.mk hy405
 clear hy405
 replace H := Option.bind_eq_some_iff.mp H
 obtain ⟨t408,A40,H⟩ := H
 try dsimp only at H
 have A4 := Aside0.mk A40
 clear A40
 replace H := Option.bind_eq_some_iff.mp H
 obtain ⟨t409,A50,H⟩ := H
 try dsimp only at H
 have A5 := Aside0.mk A50
 clear A50
 obtain ⟨y410,hy410⟩ : ∃ y_ : List AnyV,y_ = (([anyB t408,anyI 2,anyB true,anyI t409] : List AnyV)) := ⟨_,rfl⟩
 replace H : ((impl_first.f k y410).bind fun t413 => (if t413 = 0 then ((impl_Store_putAbsent.f k l0_0 a0_1 a1 a2).bind fun bt414 => ((impl_Store_copied.f bt414.1 bt414.2.1).bind fun bt421 => (some (bt421.1,bt421.2,bt414.2.2.1,bt414.2.2.2)))) else (some (([] : List (S32)),0,0,t413)))) = some (r1,r2,r3,r4) := by first | (rw [hy410]; with_reducible exact H) | (have H2_ := (Option.bind_some _ _).symm.trans H; rw [hy410]; with_reducible exact H2_) | (have H2_ := (Option.bind_some _ _).symm.trans H; with_reducible exact H2_) | with_reducible exact H | (rw [hy410]; exact H) | exact H
 have Ny410 := Aside0.mk hy410
 clear hy410
 replace H := Option.bind_eq_some_iff.mp H
 obtain ⟨t413,A60,H⟩ := H
 try dsimp only at H
 have A6 := Aside0.mk A60
 clear A60
 by_cases c7 : t413 = 0
 ·rw [if_pos c7] at H
  have c7b0 : (t413 == 0) = true := beq_iff_eq.mpr c7
  have c7b1 : (t413 != 0) = false := bne_eq_false_iff_eq.mpr c7
  clear c7
  replace H := Option.bind_eq_some_iff.mp H
  obtain ⟨⟨t414,t417,t418,t419⟩,A80,H⟩ := H
  try dsimp only at H
  have A8 := Aside0.mk A80
  clear A80
  replace H := Option.bind_eq_some_iff.mp H
  obtain ⟨⟨t421,t424⟩,A90,H⟩ := H
  try dsimp only at H
  have A9 := Aside0.mk A90
  clear A90
  simp only [Option.some.injEq,Prod.mk.injEq] at H
  obtain ⟨rfl,rfl,rfl,rfl⟩ := H
  go_enter Try.func12,Try.ntmps12
  try go_wp2_with (first | ((with_reducible refine gate_dst (N:=3) rfl ?_); refine bxe (N:=3) (cs := #[.slice A0_0 l0_0.length c0_0,.int .i64 a0_1]) (t:=25) ?_; intro gb403 hg w10 hbox hb; have BK403 := Aside0.mk (hbox); have GW403 := Aside0.mk ((gw hg : w.heap.size ≤ gb403)); have GE403 := GW403; replace HB := bsA hb; clear hb hbox hg) | ((with_reducible refine gate_dst (N:=6) rfl ?_); refine bxe (N:=6) (cs := #[.slice none 0 0,.int .i64 0]) (t:=25) ?_; intro gb404 hg w11 hbox hb; have BK404 := Aside0.mk (hbox); have GW404 := Aside0.mk ((gw hg : w.heap.size ≤ gb404)); have GE404 := GW404; replace HB := bsA hb; have NB403_404 := Aside0.mk ((nl hg BK403.out)); have NB404_403 := Aside0.mk ((ng hg BK403.out)); replace BK403 := bbA BK403 hb; clear hb hbox hg))
  replace BK403 := Aside0.mk (blk_drew BK403.out)
  replace BK404 := Aside0.mk (blk_drew BK404.out)
  replace HB := Aside0.mk (below_drew1 HB.out)
  refine start_ (n:=14) (S:=fun w' => w'.cell? ⟨gb403,0,none⟩ = some (.slice A0_0 l0_0.length c0_0) ∧ w'.cell? ⟨gb403,1,none⟩ = some (.int .i64 a0_1)) (ds := []) (bm 14 0) (by kernel_rfl) rfl rfl ⟨bl BK403 0,bl BK403 1⟩ (fun hHeld => ?_); refine with_tabW impl_PutAbsent.tab1 impl_PutAbsent.bits1 (fun HT_ HW_ => ?_)
  generalize w11.drew = w12 at BK403 BK404 HB hHeld ⊢
  refine pV_ 0 13 (bm 14 1) HT_.out ?_
  refine pV_ 1 14 (bm 14 3) HT_.out ?_
  refine pV_ 5 18 (bm 14 35) HT_.out ?_
  refine pV_ 6 19 (bm 14 99) HT_.out ?_
  refine pV_ 8 21 (bm 14 355) HT_.out ?_
  refine tk 7 20 (bm 14 483) HT_.out HW_.out hHeld ?_
  refine one_ (i:=2) (N:=some 15) (bm 14 487) rfl rfl (one_of HT_.out (by kernel_rfl)) (by decide) (fun K hK => ?_)
  refine Kd.R_lit_step Kd.string _ 9 ?hg (N:=15) ?hd (xs := ([a1,a2] : List ByteArray)) (inner := [.string a1,.string a2]) (ok := fun _ => True) (okp := fun _ => True) ?hr ?hp (fun _ hk => hk) trivial (Below.refl _ _) (Nat.le_refl _) (by simp) ?_; (case hd => rfl); (case hg => rfl); (case hr => first | (go_simp; done) | (go_simp; rfl)); (case hp => exact (Reps.one (show Kd.M Kd.string _ _ _ a1 [.string a1] from rfl) (Reps.one (show Kd.M Kd.string _ _ _ a2 [.string a2] from rfl) (Reps.none _ _))))
  intro v406 w13 ho14 hb hg_ hnew_
  clear hg_ hnew_
  (first | rw [← Ny405.out] at ho14 | (simp only [Int.reduceToNat] at ho14; rw [← Ny405.out] at ho14))
  have HO407 := Aside0.mk (Kd.R_lower ho14 (below_size bA))
  replace BK403 := bbA BK403 hb
  replace BK404 := bbA BK404 hb
  replace HB := bsA hb
  clear hb ho14
  obtain ⟨Ao15,co15,eo15⟩ := Kd.R_slice HO407.out
  (first | subst eo15 | (injection eo15 with f1_ f2_ f3_; have f4_ := f1_.symm; have f5_ := f3_.symm; clear f1_ f2_ f3_; subst f4_; subst f5_))
  refine hK.out _ _ ⟨bl BK403 0,bl BK403 1⟩ (fun hHeld => ?_)
  clear hK K
  refine nw 15 ?_
  refine one_ (i:=3) (N:=some 16) (bm 14 495) rfl rfl (one_of HT_.out (by kernel_rfl)) (by decide) (fun K hK => ?_)
  refine goes_ Try.func24 (by kernel_rfl) rfl #[.slice Ao15 y405.length co15] (by rfl) rfl rfl mA ?_
  with_reducible refine (impl_isLong.calls _ _ y405 t408 _ ?side1 ?side2 A4.out).mono ?_
  (case side1 => repeat (first | exact (Kd.R_reads' HO407.out).2.2 | (with_reducible refine Kd.C_alloc ?_ _) | (with_reducible refine Kd.C_drewN ?_ _) | (with_reducible refine Kd.C_drew ?_)))
  (case side2 => exact (Kd.R_reads' HO407.out).2.1)
  rintro e w16 ⟨rfl,hb⟩
  refine ⟨_,rfl,?_⟩
  replace HO407 := Aside0.mk (Kd.R_below (rA HO407.out) hb)
  replace BK403 := bbA BK403 hb
  replace BK404 := bbA BK404 hb
  replace HB := bsA hb
  clear hb
  refine hK.out _ _ ⟨bl BK403 0,bl BK403 1⟩ (fun hHeld => ?_)
  clear hK K
  refine nw 16 ?_
  refine pV_ 4 17 (bm 14 511) HT_.out ?_
  refine one_ (i:=9) (N:=some 22) (bm 14 1023) rfl rfl (one_of HT_.out (by kernel_rfl)) (by decide) (fun K hK => ?_)
  refine goes_ Try.func34 (by kernel_rfl) rfl #[.agg #[.slice A0_0 l0_0.length c0_0,.int .i64 a0_1],.string a1] (by rfl) rfl rfl mA ?_
  with_reducible refine (impl_storeCode.calls k _ _ l0_0 a0_1 a1 t409 _ ?side1 ?side2 A5.out).mono ?_
  (case side1 => exact sC HR0_0.out)
  (case side2 => exact HC0_0.out)
  rintro e w17 ⟨rfl,hb⟩
  refine ⟨_,rfl,?_⟩
  replace HO407 := Aside0.mk (Kd.R_below (rA HO407.out) hb)
  replace BK403 := bbA BK403 hb
  replace BK404 := bbA BK404 hb
  replace HB := bsA hb
  clear hb
  refine hK.out _ _ ⟨bl BK403 0,bl BK403 1⟩ (fun hHeld => ?_)
  clear hK K
  refine nw 22 ?_
  refine pV_ 10 23 (bm 14 2047) HT_.out ?_
  refine one_ (i:=11) (N:=some 24) (bm 14 4095) rfl rfl (one_of HT_.out (by kernel_rfl)) (by decide) (fun K hK => ?_)
  refine Kd.R_lit_step kAny _ 20 ?hg (N:=24) ?hd (xs := ([anyB t408,anyI 2,anyB true,anyI t409] : List AnyV)) (inner := [.iface 4 (.bool t408),.iface 3 (.int .i64 2),.iface 4 (.bool true),.iface 3 (.int .i64 t409)]) (ok := fun _ => True) (okp := fun _ => True) ?hr ?hp (fun _ hk => hk) trivial (Below.refl _ _) (Nat.le_refl _) (by simp) ?_; (case hd => rfl); (case hg => rfl); (case hr => first | (go_simp; done) | (go_simp; rfl)); (case hp => exact (Reps.one (show Kd.M kAny _ _ _ (anyB t408) [.iface 4 (.bool t408)] from rfl) (Reps.one (show Kd.M kAny _ _ _ (anyI 2) [.iface 3 (.int .i64 2)] from rfl) (Reps.one (show Kd.M kAny _ _ _ (anyB true) [.iface 4 (.bool true)] from rfl) (Reps.one (show Kd.M kAny _ _ _ (anyI t409) [.iface 3 (.int .i64 t409)] from rfl) (Reps.none _ _))))))
  intro v411 w18 ho19 hb hg_ hnew_
  clear hg_ hnew_
  (first | rw [← Ny410.out] at ho19 | (simp only [Int.reduceToNat] at ho19; rw [← Ny410.out] at ho19))
  replace HO407 := Aside0.mk (Kd.R_below (rA HO407.out) hb)
  have HO412 := Aside0.mk (Kd.R_lower ho19 (below_size bA))
  replace BK403 := bbA BK403 hb
  replace BK404 := bbA BK404 hb
  replace HB := bsA hb
  clear hb ho19
  obtain ⟨Ao20,co20,eo20⟩ := Kd.R_slice HO412.out
  (first | subst eo20 | (injection eo20 with f1_ f2_ f3_; have f4_ := f1_.symm; have f5_ := f3_.symm; clear f1_ f2_ f3_; subst f4_; subst f5_))
  refine hK.out _ _ ⟨bl BK403 0,bl BK403 1⟩ (fun hHeld => ?_)
  clear hK K
  refine nw 24 ?_
  refine one_ (i:=12) (N:=some 25) (bm 14 8191) rfl rfl (one_of HT_.out (by kernel_rfl)) (by decide) (fun K hK => ?_)
  refine goes_ Try.func23 (by kernel_rfl) rfl #[.slice Ao20 y410.length co20] (by rfl) rfl rfl mA ?_
  with_reducible refine (impl_first.calls k _ _ y410 t413 _ ?side1 ?side2 A6.out).mono ?_
  (case side1 => repeat (first | exact (Kd.R_reads' HO412.out).2.2 | (with_reducible refine Kd.C_alloc ?_ _) | (with_reducible refine Kd.C_drewN ?_ _) | (with_reducible refine Kd.C_drew ?_)))
  (case side2 => exact (Kd.R_reads' HO412.out).2.1)
  rintro e w' ⟨rfl,⟨nd,rfl⟩⟩
  refine ⟨_,rfl,?_⟩
  refine hK.out _ _ ⟨bl BK403 0,bl BK403 1⟩ (fun hHeld => ?_)
  clear hK K
  refine nw 25 ?_
  refine pV_ 13 9 (bm 14 16383) HT_.out ?_
  refine done_ (done_of HT_.out (by kernel_rfl)) ?_
  have hnb21 := NB403_404.out
  have hnc21 := NB404_403.out
  obtain ⟨hcz22_0,hcz22_1⟩ := cl2 BK403.out
  obtain ⟨hfz22_0,hfz22_1⟩ := fz2 BK403.out
  try go_wp2_with (first | ((with_reducible refine gate_callee (f:=35) rfl ?_); refine goesL_ (some 34) rfl rfl Try.func35 (by kernel_rfl) rfl #[.agg #[.slice A0_0 l0_0.length c0_0,.int .i64 a0_1],.string a1,.string a2] rfl mA ?_; (with_reducible refine (impl_Store_putAbsent.calls k (fun k_ => k_ < w.heap.size) _ _ l0_0 a0_1 a1 a2 t414 t417 t418 t419 _ ?side1 A8.out).mono ?_); (case side1 => exact Kd.V_mk HC0_0.out (Kd.F_below (Kd.C_F k32_heap HR0_0.out) bA)); rintro e w23 ⟨v415,rfl,ho0,hb⟩; refine ⟨_,rfl,?_⟩; have HO416 := Aside0.mk (Kd.V_lower (Kd.V_mono (ok' := fun k_ => some k_ ≠ (.slice Ao15 y405.length co15 : Value).ownBlock ∧ some k_ ≠ (.slice Ao20 y410.length co20 : Value).ownBlock ∧ k_ ≠ gb403 ∧ k_ ≠ gb404) ho0 (fun k_ hk_ => ⟨Or.elim hk_ (fun hs_ => fun e_ => Nat.not_le.2 hs_ (Kd.R_base HO407.out k_ e_.symm)) (fun hn_ => (Kd.fresh' (Kd.R_lt (rA HO407.out)) k_ hn_)),Or.elim hk_ (fun hs_ => fun e_ => Nat.not_le.2 hs_ (Kd.R_base HO412.out k_ e_.symm)) (fun hn_ => (Kd.fresh' (Kd.R_lt (rA HO412.out)) k_ hn_)),Or.elim hk_ (fun hs_ => fun e_ => Nat.not_le.2 hs_ (by rw [e_]; exact GW403.out)) (fun hn_ => (fB BK403.out k_ hn_)),Or.elim hk_ (fun hs_ => fun e_ => Nat.not_le.2 hs_ (by rw [e_]; exact GW404.out)) (fun hn_ => (fB BK404.out k_ hn_))⟩)) (below_size bA)); replace HO407 := Aside0.mk (Kd.R_below (rA HO407.out) hb); replace HO412 := Aside0.mk (Kd.R_below (rA HO412.out) hb); replace BK403 := bbA BK403 hb; replace BK404 := bbA BK404 hb; replace HB := bsA hb; clear hb; (try clear ho0)) | ((with_reducible refine gate_dst (N:=10) rfl ?_); refine bxe (N:=10) (cs := #[.slice none 0 0,.int .i64 0]) (t:=25) ?_; intro gb420 hg w24 hbox hb; replace HO407 := Aside0.mk (Kd.R_below (rA HO407.out) hb); replace HO412 := Aside0.mk (Kd.R_below (rA HO412.out) hb); replace HO416 := Aside0.mk (Kd.V_below (Kd.V_elderB (vA HO416.out) gb420 (Nat.le_of_eq hg.symm)) hb); have BK420 := Aside0.mk (hbox); have GW420 := Aside0.mk ((gw hg : w.heap.size ≤ gb420)); have GE420 := GW420; replace HB := bsA hb; have NB403_420 := Aside0.mk ((nl hg BK403.out)); have NB420_403 := Aside0.mk ((ng hg BK403.out)); replace BK403 := bbA BK403 hb; have NB404_420 := Aside0.mk ((nl hg BK404.out)); have NB420_404 := Aside0.mk ((ng hg BK404.out)); replace BK404 := bbA BK404 hb; clear hb hbox hg; obtain ⟨Ao25,co25,eo25⟩ := Kd.V_slice HO416.out; subst eo25; have hnb26 := NB420_403.out; have hnc26 := NB403_420.out; have hnb27 := NB420_404.out; have hnc27 := NB404_420.out; obtain ⟨hcz28_0,hcz28_1⟩ := cl2 BK420.out; obtain ⟨hfz28_0,hfz28_1⟩ := fz2 BK420.out) | ((with_reducible refine gate_callee (f:=36) rfl ?_); refine goesL_ (some 39) rfl rfl Try.func36 (by kernel_rfl) rfl #[.agg #[.slice Ao25 t414.length co25,.int .i64 t417]] rfl mA ?_; (with_reducible refine (impl_Store_copied.calls _ _ t414 t417 t421 t424 _ ?side1 ?side2 A9.out).mono ?_); (case side1 => refine (Kd.V_reads' (e:=32) (base := w.heap.size) (ok := fun k_ => ((some k_ ≠ (.slice Ao15 y405.length co15 : Value).ownBlock ∧ (some k_ ≠ (.slice Ao20 y410.length co20 : Value).ownBlock ∧ (k_ ≠ gb403 ∧ k_ ≠ gb404))) ∧ k_ ≠ gb420)) (n:=t414.length) (c:=co25) ?_).2.2; exact (by (with_reducible repeat (first | apply Kd.V_alloc | apply Kd.V_drewN | apply Kd.V_drew)); exact (Kd.V_mono (Kd.V_far (p:=⟨gb420,1,none⟩) (Kd.V_far (p:=⟨gb420,0,none⟩) (Kd.V_mono HO416.out (fun k_ hk => (⟨hk,hk.2⟩ : _ ∧ k_ ≠ gb420))) (fun _ hk => hk.2) (.slice Ao25 t414.length co25)) (fun _ hk => hk.2) (.int .i64 t417)) (fun _ h_ => h_.1)))); (case side2 => exact (Kd.V_reads' HO416.out).2.1); rintro e w29 ⟨v422,rfl,ho0,hb⟩; refine ⟨_,rfl,?_⟩; replace HO407 := Aside0.mk (Kd.R_below (by (with_reducible repeat (first | apply Kd.R_alloc | apply Kd.R_drewN | apply Kd.R_drew)); exact (Kd.R_mono (Kd.R_far (p:=⟨gb420,1,none⟩) (Kd.R_far (p:=⟨gb420,0,none⟩) (Kd.R_types HO407.out BK420.out (by decide)) (fun _ hk => hk.2) (.slice Ao25 t414.length co25)) (fun _ hk => hk.2) (.int .i64 t417)) (fun _ h_ => h_.1))) hb); replace HO412 := Aside0.mk (Kd.R_below (by (with_reducible repeat (first | apply Kd.R_alloc | apply Kd.R_drewN | apply Kd.R_drew)); exact (Kd.R_mono (Kd.R_far (p:=⟨gb420,1,none⟩) (Kd.R_far (p:=⟨gb420,0,none⟩) (Kd.R_types HO412.out BK420.out (by decide)) (fun _ hk => hk.2) (.slice Ao25 t414.length co25)) (fun _ hk => hk.2) (.int .i64 t417)) (fun _ h_ => h_.1))) hb); replace HO416 := Aside0.mk (Kd.V_elder' (by (with_reducible repeat (first | apply Kd.V_alloc | apply Kd.V_drewN | apply Kd.V_drew)); exact (Kd.V_mono (Kd.V_far (p:=⟨gb420,1,none⟩) (Kd.V_far (p:=⟨gb420,0,none⟩) (Kd.V_mono HO416.out (fun k_ hk => (⟨hk,hk.2⟩ : _ ∧ k_ ≠ gb420))) (fun _ hk => hk.2) (.slice Ao25 t414.length co25)) (fun _ hk => hk.2) (.int .i64 t417)) (fun _ h_ => h_.1))) (Kd.R_base ho0) hb); have HO423 := Aside0.mk (Kd.R_lower ho0 (below_size bA)); replace BK403 := Aside0.mk (bc BK403.out hb); replace BK404 := Aside0.mk (bc BK404.out hb); replace BK420 := Aside0.mk (blk_below (g:=gb420) (o:=.cells #[.slice Ao25 t414.length co25,.int .i64 t417] 25 (0,0)) (kP2 BK420.out) hb); replace HB := bsA hb; clear hb; (try clear ho0); obtain ⟨Ao30,co30,eo30⟩ := Kd.R_slice HO423.out; subst eo30; obtain ⟨hcz31_0,hcz31_1⟩ := cl2 BK404.out; obtain ⟨hfz31_0,hfz31_1⟩ := fz2 BK404.out))
  refine bodyPost_ret (results_ctt rfl _ _ gb404 25 #[.slice Ao30 t421.length co30,.int .i64 t424] (0,0) _ rfl (kP2 BK404.out) Try.underlying25 rfl (by kernel_rfl)) rfl ?_
  exact ⟨_,by first | rfl | (simp [errW_none,errW_some] <;> rfl) | (simp [*,errW_none,errW_some] <;> rfl),by (with_reducible repeat (first | apply Kd.R_alloc | apply Kd.R_drewN | apply Kd.R_drew)); exact Kd.R_mono (Kd.R_far (p:=⟨gb404,1,none⟩) (Kd.R_far (p:=⟨gb404,0,none⟩) (Kd.R_types HO423.out BK404.out (by decide)) (fun _ hk => hk.2) (.slice Ao30 t421.length co30)) (fun _ hk => hk.2) (.int .i64 t424)) (fun _ hk => trivial),bA⟩
 ·rw [if_neg c7] at H
  have c7b0 : (t413 == 0) = false := beq_eq_false_iff_ne.mpr c7
  have c7b1 : (t413 != 0) = true := bne_iff_ne.mpr c7
  simp only [Option.some.injEq,Prod.mk.injEq] at H
  obtain ⟨rfl,rfl,rfl,rfl⟩ := H
  go_enter Try.func12,Try.ntmps12
  try go_wp2_with (first | ((with_reducible refine gate_dst (N:=3) rfl ?_); refine bxe (N:=3) (cs := #[.slice A0_0 l0_0.length c0_0,.int .i64 a0_1]) (t:=25) ?_; intro gb403 hg w32 hbox hb; have BK403 := Aside0.mk (hbox); have GW403 := Aside0.mk ((gw hg : w.heap.size ≤ gb403)); have GE403 := GW403; replace HB := bsA hb; clear hb hbox hg) | ((with_reducible refine gate_dst (N:=6) rfl ?_); refine bxe (N:=6) (cs := #[.slice none 0 0,.int .i64 0]) (t:=25) ?_; intro gb404 hg w33 hbox hb; have BK404 := Aside0.mk (hbox); have GW404 := Aside0.mk ((gw hg : w.heap.size ≤ gb404)); have GE404 := GW404; replace HB := bsA hb; have NB403_404 := Aside0.mk ((nl hg BK403.out)); have NB404_403 := Aside0.mk ((ng hg BK403.out)); replace BK403 := bbA BK403 hb; clear hb hbox hg))
  replace BK403 := Aside0.mk (blk_drew BK403.out)
  replace BK404 := Aside0.mk (blk_drew BK404.out)
  replace HB := Aside0.mk (below_drew1 HB.out)
  refine start_ (n:=14) (S:=fun w' => w'.cell? ⟨gb403,0,none⟩ = some (.slice A0_0 l0_0.length c0_0) ∧ w'.cell? ⟨gb403,1,none⟩ = some (.int .i64 a0_1)) (ds := []) (bm 14 0) (by kernel_rfl) rfl rfl ⟨bl BK403 0,bl BK403 1⟩ (fun hHeld => ?_); refine with_tabW impl_PutAbsent.tab1 impl_PutAbsent.bits1 (fun HT_ HW_ => ?_)
  generalize w33.drew = w34 at BK403 BK404 HB hHeld ⊢
  refine pV_ 0 13 (bm 14 1) HT_.out ?_
  refine pV_ 1 14 (bm 14 3) HT_.out ?_
  refine pV_ 5 18 (bm 14 35) HT_.out ?_
  refine pV_ 6 19 (bm 14 99) HT_.out ?_
  refine pV_ 8 21 (bm 14 355) HT_.out ?_
  refine tk 7 20 (bm 14 483) HT_.out HW_.out hHeld ?_
  refine one_ (i:=2) (N:=some 15) (bm 14 487) rfl rfl (one_of HT_.out (by kernel_rfl)) (by decide) (fun K hK => ?_)
  refine Kd.R_lit_step Kd.string _ 9 ?hg (N:=15) ?hd (xs := ([a1,a2] : List ByteArray)) (inner := [.string a1,.string a2]) (ok := fun _ => True) (okp := fun _ => True) ?hr ?hp (fun _ hk => hk) trivial (Below.refl _ _) (Nat.le_refl _) (by simp) ?_; (case hd => rfl); (case hg => rfl); (case hr => first | (go_simp; done) | (go_simp; rfl)); (case hp => exact (Reps.one (show Kd.M Kd.string _ _ _ a1 [.string a1] from rfl) (Reps.one (show Kd.M Kd.string _ _ _ a2 [.string a2] from rfl) (Reps.none _ _))))
  intro v406 w35 ho36 hb hg_ hnew_
  clear hg_ hnew_
  (first | rw [← Ny405.out] at ho36 | (simp only [Int.reduceToNat] at ho36; rw [← Ny405.out] at ho36))
  have HO407 := Aside0.mk (Kd.R_lower ho36 (below_size bA))
  replace BK403 := bbA BK403 hb
  replace BK404 := bbA BK404 hb
  replace HB := bsA hb
  clear hb ho36
  obtain ⟨Ao37,co37,eo37⟩ := Kd.R_slice HO407.out
  (first | subst eo37 | (injection eo37 with f1_ f2_ f3_; have f4_ := f1_.symm; have f5_ := f3_.symm; clear f1_ f2_ f3_; subst f4_; subst f5_))
  refine hK.out _ _ ⟨bl BK403 0,bl BK403 1⟩ (fun hHeld => ?_)
  clear hK K
  refine nw 15 ?_
  refine one_ (i:=3) (N:=some 16) (bm 14 495) rfl rfl (one_of HT_.out (by kernel_rfl)) (by decide) (fun K hK => ?_)
  refine goes_ Try.func24 (by kernel_rfl) rfl #[.slice Ao37 y405.length co37] (by rfl) rfl rfl mA ?_
  with_reducible refine (impl_isLong.calls _ _ y405 t408 _ ?side1 ?side2 A4.out).mono ?_
  (case side1 => repeat (first | exact (Kd.R_reads' HO407.out).2.2 | (with_reducible refine Kd.C_alloc ?_ _) | (with_reducible refine Kd.C_drewN ?_ _) | (with_reducible refine Kd.C_drew ?_)))
  (case side2 => exact (Kd.R_reads' HO407.out).2.1)
  rintro e w38 ⟨rfl,hb⟩
  refine ⟨_,rfl,?_⟩
  replace HO407 := Aside0.mk (Kd.R_below (rA HO407.out) hb)
  replace BK403 := bbA BK403 hb
  replace BK404 := bbA BK404 hb
  replace HB := bsA hb
  clear hb
  refine hK.out _ _ ⟨bl BK403 0,bl BK403 1⟩ (fun hHeld => ?_)
  clear hK K
  refine nw 16 ?_
  refine pV_ 4 17 (bm 14 511) HT_.out ?_
  refine one_ (i:=9) (N:=some 22) (bm 14 1023) rfl rfl (one_of HT_.out (by kernel_rfl)) (by decide) (fun K hK => ?_)
  refine goes_ Try.func34 (by kernel_rfl) rfl #[.agg #[.slice A0_0 l0_0.length c0_0,.int .i64 a0_1],.string a1] (by rfl) rfl rfl mA ?_
  with_reducible refine (impl_storeCode.calls k _ _ l0_0 a0_1 a1 t409 _ ?side1 ?side2 A5.out).mono ?_
  (case side1 => exact sC HR0_0.out)
  (case side2 => exact HC0_0.out)
  rintro e w39 ⟨rfl,hb⟩
  refine ⟨_,rfl,?_⟩
  replace HO407 := Aside0.mk (Kd.R_below (rA HO407.out) hb)
  replace BK403 := bbA BK403 hb
  replace BK404 := bbA BK404 hb
  replace HB := bsA hb
  clear hb
  refine hK.out _ _ ⟨bl BK403 0,bl BK403 1⟩ (fun hHeld => ?_)
  clear hK K
  refine nw 22 ?_
  refine pV_ 10 23 (bm 14 2047) HT_.out ?_
  refine one_ (i:=11) (N:=some 24) (bm 14 4095) rfl rfl (one_of HT_.out (by kernel_rfl)) (by decide) (fun K hK => ?_)
  refine Kd.R_lit_step kAny _ 20 ?hg (N:=24) ?hd (xs := ([anyB t408,anyI 2,anyB true,anyI t409] : List AnyV)) (inner := [.iface 4 (.bool t408),.iface 3 (.int .i64 2),.iface 4 (.bool true),.iface 3 (.int .i64 t409)]) (ok := fun _ => True) (okp := fun _ => True) ?hr ?hp (fun _ hk => hk) trivial (Below.refl _ _) (Nat.le_refl _) (by simp) ?_; (case hd => rfl); (case hg => rfl); (case hr => first | (go_simp; done) | (go_simp; rfl)); (case hp => exact (Reps.one (show Kd.M kAny _ _ _ (anyB t408) [.iface 4 (.bool t408)] from rfl) (Reps.one (show Kd.M kAny _ _ _ (anyI 2) [.iface 3 (.int .i64 2)] from rfl) (Reps.one (show Kd.M kAny _ _ _ (anyB true) [.iface 4 (.bool true)] from rfl) (Reps.one (show Kd.M kAny _ _ _ (anyI t409) [.iface 3 (.int .i64 t409)] from rfl) (Reps.none _ _))))))
  intro v411 w40 ho41 hb hg_ hnew_
  clear hg_ hnew_
  (first | rw [← Ny410.out] at ho41 | (simp only [Int.reduceToNat] at ho41; rw [← Ny410.out] at ho41))
  replace HO407 := Aside0.mk (Kd.R_below (rA HO407.out) hb)
  have HO412 := Aside0.mk (Kd.R_lower ho41 (below_size bA))
  replace BK403 := bbA BK403 hb
  replace BK404 := bbA BK404 hb
  replace HB := bsA hb
  clear hb ho41
  obtain ⟨Ao42,co42,eo42⟩ := Kd.R_slice HO412.out
  (first | subst eo42 | (injection eo42 with f1_ f2_ f3_; have f4_ := f1_.symm; have f5_ := f3_.symm; clear f1_ f2_ f3_; subst f4_; subst f5_))
  refine hK.out _ _ ⟨bl BK403 0,bl BK403 1⟩ (fun hHeld => ?_)
  clear hK K
  refine nw 24 ?_
  refine one_ (i:=12) (N:=some 25) (bm 14 8191) rfl rfl (one_of HT_.out (by kernel_rfl)) (by decide) (fun K hK => ?_)
  refine goes_ Try.func23 (by kernel_rfl) rfl #[.slice Ao42 y410.length co42] (by rfl) rfl rfl mA ?_
  with_reducible refine (impl_first.calls k _ _ y410 t413 _ ?side1 ?side2 A6.out).mono ?_
  (case side1 => repeat (first | exact (Kd.R_reads' HO412.out).2.2 | (with_reducible refine Kd.C_alloc ?_ _) | (with_reducible refine Kd.C_drewN ?_ _) | (with_reducible refine Kd.C_drew ?_)))
  (case side2 => exact (Kd.R_reads' HO412.out).2.1)
  rintro e w' ⟨rfl,⟨nd,rfl⟩⟩
  refine ⟨_,rfl,?_⟩
  refine hK.out _ _ ⟨bl BK403 0,bl BK403 1⟩ (fun hHeld => ?_)
  clear hK K
  refine nw 25 ?_
  refine pV_ 13 9 (bm 14 16383) HT_.out ?_
  refine done_ (done_of HT_.out (by kernel_rfl)) ?_
  have hnb43 := NB404_403.out
  have hnc43 := NB403_404.out
  obtain ⟨hcz44_0,hcz44_1⟩ := cl2 BK404.out
  obtain ⟨hfz44_0,hfz44_1⟩ := fz2 BK404.out
  try go_wp2
  refine bodyPost_ret (results_ctt rfl _ _ gb404 25 #[.slice none 0 0,.int .i64 0] (0,0) _ rfl (kP2 BK404.out) Try.underlying25 rfl (by kernel_rfl)) rfl ?_
  exact ⟨_,by first | rfl | (simp [errW_none,errW_some] <;> rfl) | (simp [*,errW_none,errW_some] <;> rfl),by first | exact Kd.R_nil _ _ _ _ _ | exact Kd.N_nil _ _ _ _ _ | exact Kd.V_nil _ _ _ _ _ | exact Kd.Q_nil _ _ _ _ _ | exact Kd.S_nil _ _ _ _ _,bA⟩

/-! ### spec_l01In: function 31 -/
def spec_l01In.f (a0 : Int) (a1 : Int) (a2 : Int) : Option (Bool) := if a1 ≤ a0 then (some (decide (a0 ≤ a2))) else (some false)
set_option maxHeartbeats 8000000 in
set_option maxRecDepth 100000 in
theorem spec_l01In.calls (a0 : Int) (a1 : Int) (a2 : Int) (r : Bool) (w : World) (h : spec_l01In.f a0 a1 a2 = some r) :
  Calls Try.prog 31 #[.int .i64 a0,.int .i64 a1,.int .i64 a2] w fun e w' => e = .returned (.bool r) ∧ Drawn0 w w' := by
 have H : (if a1 ≤ a0 then (some (decide (a0 ≤ a2))) else (some false)) = some r := h
 clear h
 by_cases c4 : a1 ≤ a0
 ·rw [if_pos c4] at H
  have c4b0 : decide (a1 ≤ a0) = true := decide_eq_true c4
  clear c4
  obtain rfl := Option.some.inj H
  go_enter Try.func31,Try.ntmps31
  go_wp2
  go_ret
  exact ⟨by first | rfl | (simp; done) | (simp [*]; done),by repeat (first | exact Drawn0.refl _ | apply Drawn0.step)⟩
 ·rw [if_neg c4] at H
  have c4b0 : decide (a1 ≤ a0) = false := decide_eq_false c4
  clear c4
  obtain rfl := Option.some.inj H
  go_enter Try.func31,Try.ntmps31
  go_wp2
  go_ret
  exact ⟨by first | rfl | (simp; done) | (simp [*]; done),by repeat (first | exact Drawn0.refl _ | apply Drawn0.step)⟩

/-! ### spec_l00Digit: function 73 -/
def spec_l00Digit.f (a0 : Int) : Option (Bool) := if a0 ≥ 48 then (some (decide (a0 ≤ 57))) else (some false)
set_option maxHeartbeats 8000000 in
set_option maxRecDepth 100000 in
theorem spec_l00Digit.calls (a0 : Int) (r : Bool) (w : World) (h : spec_l00Digit.f a0 = some r) :
  Calls Try.prog 73 #[.int .u8 a0] w fun e w' => e = .returned (.bool r) ∧ Drawn0 w w' := by
 have H : (if a0 ≥ 48 then (some (decide (a0 ≤ 57))) else (some false)) = some r := h
 clear h
 by_cases c2 : a0 ≥ 48
 ·rw [if_pos c2] at H
  have c2b0 : decide (48 ≤ a0) = true := decide_eq_true c2
  clear c2
  obtain rfl := Option.some.inj H
  go_enter Try.func73,Try.ntmps73
  go_wp2
  go_ret
  exact ⟨by first | rfl | (simp; done) | (simp [*]; done),by repeat (first | exact Drawn0.refl _ | apply Drawn0.step)⟩
 ·rw [if_neg c2] at H
  have c2b0 : decide (48 ≤ a0) = false := decide_eq_false c2
  clear c2
  obtain rfl := Option.some.inj H
  go_enter Try.func73,Try.ntmps73
  go_wp2
  go_ret
  exact ⟨by first | rfl | (simp; done) | (simp [*]; done),by repeat (first | exact Drawn0.refl _ | apply Drawn0.step)⟩

/-! ### spec_KeyOK: function 56 -/
def spec_KeyOK.l0 : Nat → ByteArray → Int → Option (Bool)
 | 0,_,_ => none
 | k + 1,x0,x3 => if x3 < (x0.size : Int) then (if 0 ≤ x3 then ((spec_l00Digit.f (bt x0 x3)).bind fun t425 => (if t425 = true then (spec_KeyOK.l0 k x0 (wrap64 (x3 + 1))) else (if (bt x0 x3) < 97 then (if (bt x0 x3) = 47 then (spec_KeyOK.l0 k x0 (wrap64 (x3 + 1))) else (if (bt x0 x3) = 45 then (spec_KeyOK.l0 k x0 (wrap64 (x3 + 1))) else (some false))) else (if (bt x0 x3) > 122 then (if (bt x0 x3) = 47 then (spec_KeyOK.l0 k x0 (wrap64 (x3 + 1))) else (if (bt x0 x3) = 45 then (spec_KeyOK.l0 k x0 (wrap64 (x3 + 1))) else (some false))) else (spec_KeyOK.l0 k x0 (wrap64 (x3 + 1))))))) else (none)) else ((spec_l01In.f (x0.size : Int) 1 30).bind fun t426 => (some t426))
def spec_KeyOK.f (k : Nat) (a0 : ByteArray) : Option (Bool) := if (a0.size : Int) > 65536 then (some false) else (spec_KeyOK.l0 k a0 0)
theorem spec_KeyOK.mono_l : ∀ k,(∀ y0 y1,LeO (spec_KeyOK.l0 k y0 y1) (spec_KeyOK.l0 (k + 1) y0 y1))
 | 0 => fun _ _ r h => by simp [spec_KeyOK.l0] at h
 | k + 1 => by
  have ih0 := spec_KeyOK.mono_l k
  ·intro y0 y1
   unfold spec_KeyOK.l0
   repeat' first
   | (with_reducible first | exact ih0 .. | exact LeO.refl _ | exact LeO.none _ | refine LeO.ite ?_ ?_ | refine LeO.bind ?_ (fun _ => ?_))
   | exact LeO.none _ | refine LeO.ite ?_ ?_ | refine LeO.bind ?_ (fun _ => ?_)
theorem spec_KeyOK.mono : ∀ a0 k,LeO (spec_KeyOK.f k a0) (spec_KeyOK.f (k + 1) a0) := by
 intro a0 k
 have ih0 := spec_KeyOK.mono_l k
 unfold spec_KeyOK.f
 repeat' first
 | (with_reducible first | exact ih0 .. | exact LeO.refl _ | exact LeO.none _ | refine LeO.ite ?_ ?_ | refine LeO.bind ?_ (fun _ => ?_))
 | exact LeO.none _ | refine LeO.ite ?_ ?_ | refine LeO.bind ?_ (fun _ => ?_)
set_option maxHeartbeats 8000000 in
set_option maxRecDepth 100000 in
theorem spec_KeyOK.calls (k : Nat) (a0 : ByteArray) (r : Bool) (w : World) (h : spec_KeyOK.f k a0 = some r) :
  Calls Try.prog 56 #[.string a0] w fun e w' => e = .returned (.bool r) ∧ Drawn0 w w' := by
 have H : (if (a0.size : Int) > 65536 then (some false) else (spec_KeyOK.l0 k a0 0)) = some r := h
 clear h
 by_cases c2 : (a0.size : Int) > 65536
 ·rw [if_pos c2] at H
  have c2b0 : decide (65536 < (a0.size : Int)) = true := decide_eq_true c2
  have c2b1 : decide (65536 < a0.size) = true := decide_eq_true (by omega)
  clear c2
  obtain rfl := Option.some.inj H
  go_enter Try.func56,Try.ntmps56
  go_wp2
  go_ret
  exact ⟨by first | rfl | (simp; done) | (simp [*]; done),by repeat (first | exact Drawn0.refl _ | apply Drawn0.step)⟩
 ·rw [if_neg c2] at H
  have c2b0 : decide (65536 < (a0.size : Int)) = false := decide_eq_false c2
  have c2b1 : decide (65536 < a0.size) = false := decide_eq_false (by omega)
  clear c2
  have H' := Aside0.mk H
  clear H
  go_enter Try.func56,Try.ntmps56
  go_wp2
  go_loopg [3] k (fun kq v3 w' => ∃ (x3_1 : Int),v3 = .int .i64 x3_1 ∧ Aside0 (spec_KeyOK.l0 kq a0 x3_1 = some r) ∧ Aside0 (kq ≤ k) ∧ Drawn0 w w')
  case atStart => exact ⟨(0),(by first | rfl | (simp; done) | (simp [*]; done)),H',⟨Nat.le_refl _⟩,by repeat (first | exact Drawn0.refl _ | apply Drawn0.step)⟩
  case round =>
   clear H'
   try clear c2
   try clear c2b0
   try clear c2b1
   try clear p2
   obtain ⟨x3_1,rfl,HA,HK1,⟨m1,rfl⟩⟩ := hrel
   cases gk with
   | zero => exact absurd HA.out (by simp [spec_KeyOK.l0])
   | succ k1 =>
    have H := HA.out
    clear HA
    simp only [spec_KeyOK.l0] at H
    by_cases c3 : x3_1 < (a0.size : Int)
    ·rw [if_pos c3] at H
     have c3b0 : decide (x3_1 < (a0.size : Int)) = true := decide_eq_true c3
     clear c3
     by_cases c4 : 0 ≤ x3_1
     ·rw [if_pos c4] at H
      have c4b0 : decide (0 ≤ x3_1) = true := decide_eq_true c4
      clear c4
      replace H := Option.bind_eq_some_iff.mp H
      obtain ⟨t425,A60,H⟩ := H
      try dsimp only at H
      have A6 := Aside0.mk A60
      clear A60
      by_cases c7 : t425 = true
      ·subst c7
       rw [if_pos rfl] at H
       have H' := Aside0.mk H
       clear H
       have p5 : 0 ≤ (x3_1 : Int) := od
       have q5 : x3_1 < (a0.size : Int) := od
       have hx5 := bt_at a0 x3_1
       replace p5 := eq_true p5
       replace q5 := eq_true q5
       go_wp2_with (first | ((with_reducible refine gate_callee (f:=73) rfl ?_); refine goesL_ (some 18) rfl rfl Try.func73 (by kernel_rfl) rfl #[.int .u8 (bt a0 x3_1)] rfl mA ?_; (with_reducible refine (spec_l00Digit.calls (bt a0 x3_1) true _ A6.out).mono ?_); rintro e w' ⟨rfl,⟨nd,rfl⟩⟩; refine ⟨_,rfl,?_⟩))
       go_roundg k1
       case measure => have := HK1.out; omega
       case rel => exact ⟨(wrap64 (x3_1 + 1)),(by first | rfl | (simp; done) | (simp [*]; done)),H',⟨by have := HK1.out; omega⟩,by repeat (first | exact Drawn0.refl _ | apply Drawn0.step)⟩
      ·replace c7 := Bool.eq_false_iff.mpr c7
       subst c7
       rw [if_neg (show ¬ (false = true) by decide)] at H
       by_cases c8 : (bt a0 x3_1) < 97
       ·rw [if_pos c8] at H
        have c8b0 : decide ((bt a0 x3_1) < 97) = true := decide_eq_true c8
        clear c8
        by_cases c9 : (bt a0 x3_1) = 47
        ·rw [if_pos c9] at H
         have c9b0 : ((bt a0 x3_1) == 47) = true := beq_iff_eq.mpr c9
         have c9b1 : ((bt a0 x3_1) != 47) = false := bne_eq_false_iff_eq.mpr c9
         clear c9
         have H' := Aside0.mk H
         clear H
         have p5 : 0 ≤ (x3_1 : Int) := od
         have q5 : x3_1 < (a0.size : Int) := od
         have hx5 := bt_at a0 x3_1
         replace p5 := eq_true p5
         replace q5 := eq_true q5
         go_wp2_with (first | ((with_reducible refine gate_callee (f:=73) rfl ?_); refine goesL_ (some 18) rfl rfl Try.func73 (by kernel_rfl) rfl #[.int .u8 (bt a0 x3_1)] rfl mA ?_; (with_reducible refine (spec_l00Digit.calls (bt a0 x3_1) false _ A6.out).mono ?_); rintro e w' ⟨rfl,⟨nd,rfl⟩⟩; refine ⟨_,rfl,?_⟩))
         go_roundg k1
         case measure => have := HK1.out; omega
         case rel => exact ⟨(wrap64 (x3_1 + 1)),(by first | rfl | (simp; done) | (simp [*]; done)),H',⟨by have := HK1.out; omega⟩,by repeat (first | exact Drawn0.refl _ | apply Drawn0.step)⟩
        ·rw [if_neg c9] at H
         have c9b0 : ((bt a0 x3_1) == 47) = false := beq_eq_false_iff_ne.mpr c9
         have c9b1 : ((bt a0 x3_1) != 47) = true := bne_iff_ne.mpr c9
         by_cases c10 : (bt a0 x3_1) = 45
         ·rw [if_pos c10] at H
          have c10b0 : ((bt a0 x3_1) == 45) = true := beq_iff_eq.mpr c10
          have c10b1 : ((bt a0 x3_1) != 45) = false := bne_eq_false_iff_eq.mpr c10
          clear c10
          have H' := Aside0.mk H
          clear H
          have p5 : 0 ≤ (x3_1 : Int) := od
          have q5 : x3_1 < (a0.size : Int) := od
          have hx5 := bt_at a0 x3_1
          replace p5 := eq_true p5
          replace q5 := eq_true q5
          go_wp2_with (first | ((with_reducible refine gate_callee (f:=73) rfl ?_); refine goesL_ (some 18) rfl rfl Try.func73 (by kernel_rfl) rfl #[.int .u8 (bt a0 x3_1)] rfl mA ?_; (with_reducible refine (spec_l00Digit.calls (bt a0 x3_1) false _ A6.out).mono ?_); rintro e w' ⟨rfl,⟨nd,rfl⟩⟩; refine ⟨_,rfl,?_⟩))
          go_roundg k1
          case measure => have := HK1.out; omega
          case rel => exact ⟨(wrap64 (x3_1 + 1)),(by first | rfl | (simp; done) | (simp [*]; done)),H',⟨by have := HK1.out; omega⟩,by repeat (first | exact Drawn0.refl _ | apply Drawn0.step)⟩
         ·rw [if_neg c10] at H
          have c10b0 : ((bt a0 x3_1) == 45) = false := beq_eq_false_iff_ne.mpr c10
          have c10b1 : ((bt a0 x3_1) != 45) = true := bne_iff_ne.mpr c10
          obtain rfl := Option.some.inj H
          have p5 : 0 ≤ (x3_1 : Int) := od
          have q5 : x3_1 < (a0.size : Int) := od
          have hx5 := bt_at a0 x3_1
          replace p5 := eq_true p5
          replace q5 := eq_true q5
          go_wp2_with (first | ((with_reducible refine gate_callee (f:=73) rfl ?_); refine goesL_ (some 18) rfl rfl Try.func73 (by kernel_rfl) rfl #[.int .u8 (bt a0 x3_1)] rfl mA ?_; (with_reducible refine (spec_l00Digit.calls (bt a0 x3_1) false _ A6.out).mono ?_); rintro e w' ⟨rfl,⟨nd,rfl⟩⟩; refine ⟨_,rfl,?_⟩))
          go_ret
          exact ⟨by first | rfl | (simp; done) | (simp [*]; done),by repeat (first | exact Drawn0.refl _ | apply Drawn0.step)⟩
       ·rw [if_neg c8] at H
        have c8b0 : decide ((bt a0 x3_1) < 97) = false := decide_eq_false c8
        clear c8
        by_cases c11 : (bt a0 x3_1) > 122
        ·rw [if_pos c11] at H
         have c11b0 : decide (122 < (bt a0 x3_1)) = true := decide_eq_true c11
         clear c11
         by_cases c12 : (bt a0 x3_1) = 47
         ·rw [if_pos c12] at H
          have c12b0 : ((bt a0 x3_1) == 47) = true := beq_iff_eq.mpr c12
          have c12b1 : ((bt a0 x3_1) != 47) = false := bne_eq_false_iff_eq.mpr c12
          clear c12
          have H' := Aside0.mk H
          clear H
          have p5 : 0 ≤ (x3_1 : Int) := od
          have q5 : x3_1 < (a0.size : Int) := od
          have hx5 := bt_at a0 x3_1
          replace p5 := eq_true p5
          replace q5 := eq_true q5
          go_wp2_with (first | ((with_reducible refine gate_callee (f:=73) rfl ?_); refine goesL_ (some 18) rfl rfl Try.func73 (by kernel_rfl) rfl #[.int .u8 (bt a0 x3_1)] rfl mA ?_; (with_reducible refine (spec_l00Digit.calls (bt a0 x3_1) false _ A6.out).mono ?_); rintro e w' ⟨rfl,⟨nd,rfl⟩⟩; refine ⟨_,rfl,?_⟩))
          go_roundg k1
          case measure => have := HK1.out; omega
          case rel => exact ⟨(wrap64 (x3_1 + 1)),(by first | rfl | (simp; done) | (simp [*]; done)),H',⟨by have := HK1.out; omega⟩,by repeat (first | exact Drawn0.refl _ | apply Drawn0.step)⟩
         ·rw [if_neg c12] at H
          have c12b0 : ((bt a0 x3_1) == 47) = false := beq_eq_false_iff_ne.mpr c12
          have c12b1 : ((bt a0 x3_1) != 47) = true := bne_iff_ne.mpr c12
          by_cases c13 : (bt a0 x3_1) = 45
          ·rw [if_pos c13] at H
           have c13b0 : ((bt a0 x3_1) == 45) = true := beq_iff_eq.mpr c13
           have c13b1 : ((bt a0 x3_1) != 45) = false := bne_eq_false_iff_eq.mpr c13
           clear c13
           have H' := Aside0.mk H
           clear H
           have p5 : 0 ≤ (x3_1 : Int) := od
           have q5 : x3_1 < (a0.size : Int) := od
           have hx5 := bt_at a0 x3_1
           replace p5 := eq_true p5
           replace q5 := eq_true q5
           go_wp2_with (first | ((with_reducible refine gate_callee (f:=73) rfl ?_); refine goesL_ (some 18) rfl rfl Try.func73 (by kernel_rfl) rfl #[.int .u8 (bt a0 x3_1)] rfl mA ?_; (with_reducible refine (spec_l00Digit.calls (bt a0 x3_1) false _ A6.out).mono ?_); rintro e w' ⟨rfl,⟨nd,rfl⟩⟩; refine ⟨_,rfl,?_⟩))
           go_roundg k1
           case measure => have := HK1.out; omega
           case rel => exact ⟨(wrap64 (x3_1 + 1)),(by first | rfl | (simp; done) | (simp [*]; done)),H',⟨by have := HK1.out; omega⟩,by repeat (first | exact Drawn0.refl _ | apply Drawn0.step)⟩
          ·rw [if_neg c13] at H
           have c13b0 : ((bt a0 x3_1) == 45) = false := beq_eq_false_iff_ne.mpr c13
           have c13b1 : ((bt a0 x3_1) != 45) = true := bne_iff_ne.mpr c13
           obtain rfl := Option.some.inj H
           have p5 : 0 ≤ (x3_1 : Int) := od
           have q5 : x3_1 < (a0.size : Int) := od
           have hx5 := bt_at a0 x3_1
           replace p5 := eq_true p5
           replace q5 := eq_true q5
           go_wp2_with (first | ((with_reducible refine gate_callee (f:=73) rfl ?_); refine goesL_ (some 18) rfl rfl Try.func73 (by kernel_rfl) rfl #[.int .u8 (bt a0 x3_1)] rfl mA ?_; (with_reducible refine (spec_l00Digit.calls (bt a0 x3_1) false _ A6.out).mono ?_); rintro e w' ⟨rfl,⟨nd,rfl⟩⟩; refine ⟨_,rfl,?_⟩))
           go_ret
           exact ⟨by first | rfl | (simp; done) | (simp [*]; done),by repeat (first | exact Drawn0.refl _ | apply Drawn0.step)⟩
        ·rw [if_neg c11] at H
         have c11b0 : decide (122 < (bt a0 x3_1)) = false := decide_eq_false c11
         clear c11
         have H' := Aside0.mk H
         clear H
         have p5 : 0 ≤ (x3_1 : Int) := od
         have q5 : x3_1 < (a0.size : Int) := od
         have hx5 := bt_at a0 x3_1
         replace p5 := eq_true p5
         replace q5 := eq_true q5
         go_wp2_with (first | ((with_reducible refine gate_callee (f:=73) rfl ?_); refine goesL_ (some 18) rfl rfl Try.func73 (by kernel_rfl) rfl #[.int .u8 (bt a0 x3_1)] rfl mA ?_; (with_reducible refine (spec_l00Digit.calls (bt a0 x3_1) false _ A6.out).mono ?_); rintro e w' ⟨rfl,⟨nd,rfl⟩⟩; refine ⟨_,rfl,?_⟩))
         go_roundg k1
         case measure => have := HK1.out; omega
         case rel => exact ⟨(wrap64 (x3_1 + 1)),(by first | rfl | (simp; done) | (simp [*]; done)),H',⟨by have := HK1.out; omega⟩,by repeat (first | exact Drawn0.refl _ | apply Drawn0.step)⟩
     ·rw [if_neg c4] at H
      exact absurd H (by simp)
    ·rw [if_neg c3] at H
     have c3b0 : decide (x3_1 < (a0.size : Int)) = false := decide_eq_false c3
     clear c3
     replace H := Option.bind_eq_some_iff.mp H
     obtain ⟨t426,A140,H⟩ := H
     try dsimp only at H
     have A14 := Aside0.mk A140
     clear A140
     obtain rfl := Option.some.inj H
     go_wp2_with (first | ((with_reducible refine gate_callee (f:=31) rfl ?_); refine goesL_ (some 38) rfl rfl Try.func31 (by kernel_rfl) rfl #[.int .i64 (a0.size : Int),.int .i64 1,.int .i64 30] rfl mA ?_; (with_reducible refine (spec_l01In.calls (a0.size : Int) 1 30 t426 _ A14.out).mono ?_); rintro e w' ⟨rfl,⟨nd,rfl⟩⟩; refine ⟨_,rfl,?_⟩))
     go_ret
     exact ⟨by first | rfl | (simp; done) | (simp [*]; done),by repeat (first | exact Drawn0.refl _ | apply Drawn0.step)⟩

end Go.Proofs.Ytgkfemnfbkgeiaa.XFnStore
