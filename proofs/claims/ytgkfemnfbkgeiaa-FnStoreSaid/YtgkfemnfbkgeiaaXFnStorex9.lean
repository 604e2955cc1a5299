-- Printed by this session's own program wip/tools/xprint.py, which widens the kit's print. Not trusted: Lean checks it.
import Derived.Test.YtgkfemnfbkgeiaaXFnStorex0
import Derived.Test.YtgkfemnfbkgeiaaXFnStorex6
import Derived.Test.YtgkfemnfbkgeiaaXFnStorex8
namespace Go.Proofs.Ytgkfemnfbkgeiaa.XFnStore
open List (setIfInBounds_toArray set_cons_zero set_cons_succ)
open Go.RowKit Go.Proofs.YtgkfemnfbkgeiaaW.PrintWords Go.Proofs.YtgkfemnfbkgeiaaW.PrintLast Go.Proofs.YtgkfemnfbkgeiaaW.PrintMore
attribute [local go_sem] max2_int min2_int max_two min_two max_three min_three max_four min_four   -- for this text's walks alone
set_option linter.unusedVariables false
set_option linter.unusedSimpArgs false

/-! ### impl_Store_put: function 44 -/
def impl_Store_put.j0 : Nat → ByteArray → ByteArray → Int → Bool → Int → List (S32) → Int → Option ((List (S32)) × Int × Int × Int)
 | 0,_,_,_,_,_,_,_ => none
 | k + 1,x1,x2,x9,x10,x11,x368000,x368001 => if x11 = 0 then ((impl_Store_copied.f x368000 x368001).bind fun bt383 => (if x10 = true then (if 0 ≤ x9 then (if x9 < (bt383.1.length : Int) then (some ((bt383.1.set (x9 : Int).toNat (⟨x1,x368001,x2⟩ : S32)),wrap64 (bt383.2 + 1),x368001,0)) else (none)) else (none)) else (if bt383.1.length < 3518437208000 ∧ 0 ≤ x9 ∧ x9 ≤ (bt383.1.length : Int) then (some ((bt383.1.take (x9 : Int).toNat ++ (⟨x1,x368001,x2⟩ : S32) :: bt383.1.drop (x9 : Int).toNat),wrap64 (bt383.2 + 1),x368001,0)) else (none)))) else (some (x368000,x368001,0,x11))
def impl_Store_put.f (k : Nat) (l0_0 : List (S32)) (a0_1 : Int) (a1 : ByteArray) (a2 : ByteArray) : Option ((List (S32)) × Int × Int × Int) := (impl_Store_find.f l0_0 a0_1 a1).bind fun bt369 => (if bt369.2 = true then ((impl_first.f k (([anyB (decide ((a2.size : Int) > 600)),anyI 8,anyB (a0_1 == 1000000000),anyI 7] : List AnyV))).bind fun t374 => (impl_Store_put.j0 k a1 a2 bt369.1 bt369.2 t374 l0_0 a0_1)) else (if (l0_0.length : Int) = 300 then ((impl_first.f k (([anyB (decide ((a2.size : Int) > 600)),anyI 8,anyB true,anyI 7] : List AnyV))).bind fun t378 => (impl_Store_put.j0 k a1 a2 bt369.1 bt369.2 t378 l0_0 a0_1)) else ((impl_first.f k (([anyB (decide ((a2.size : Int) > 600)),anyI 8,anyB (a0_1 == 1000000000),anyI 7] : List AnyV))).bind fun t382 => (impl_Store_put.j0 k a1 a2 bt369.1 bt369.2 t382 l0_0 a0_1))))
theorem impl_Store_put.mono_l : ∀ k,(∀ y0 y1 y2 y3 y4 y5 y6,LeO (impl_Store_put.j0 k y0 y1 y2 y3 y4 y5 y6) (impl_Store_put.j0 (k + 1) y0 y1 y2 y3 y4 y5 y6))
 | 0 => fun _ _ _ _ _ _ _ r h => by simp [impl_Store_put.j0] at h
 | k + 1 => by
  have ih0 := impl_Store_put.mono_l k
  ·intro y0 y1 y2 y3 y4 y5 y6
   unfold impl_Store_put.j0
   repeat' first
   | (with_reducible first | exact ih0 .. | exact impl_first.mono .. | exact LeO.refl _ | exact LeO.none _ | refine LeO.ite ?_ ?_ | refine LeO.bind ?_ (fun _ => ?_))
   | exact LeO.none _ | refine LeO.ite ?_ ?_ | refine LeO.bind ?_ (fun _ => ?_)
theorem impl_Store_put.mono : ∀ a0 a1 a2 a3 k,LeO (impl_Store_put.f k a0 a1 a2 a3) (impl_Store_put.f (k + 1) a0 a1 a2 a3) := by
 intro a0 a1 a2 a3 k
 have ih0 := impl_Store_put.mono_l k
 unfold impl_Store_put.f
 repeat' first
 | (with_reducible first | exact ih0 .. | exact impl_first.mono .. | exact LeO.refl _ | exact LeO.none _ | refine LeO.ite ?_ ?_ | refine LeO.bind ?_ (fun _ => ?_))
 | exact LeO.none _ | refine LeO.ite ?_ ?_ | refine LeO.bind ?_ (fun _ => ?_)
def impl_Store_put.T5 : Bool × List (List Nat × List Nat) := (true,[([],[]),([0],[0]),([],[]),([],[]),([3],[3]),([],[]),([2,4,5],[2,4,5]),([],[]),([],[]),([7,1,1,0,1,7,8],[1,7]),([8,6,9,0,1,2,3,4,5,6,7,8,9],[6,8])])
def impl_Store_put.B5 : List Nat := [0,1,0,0,8,0,60,0,0,387,1023]
theorem impl_Store_put.tab5 : rtab .any (opsOf Try.f44 5) = impl_Store_put.T5 := by kernel_rfl
theorem impl_Store_put.bits5 : waitsOk impl_Store_put.T5.2 impl_Store_put.B5 = true := by kernel_rfl
set_option maxHeartbeats 8000000 in
set_option maxRecDepth 100000 in
theorem impl_Store_put.calls (k : Nat) (P0_0_ : Nat → Prop) (A0_0 : Option Addr) (c0_0 : Nat) (l0_0 : List (S32)) (a0_1 : Int) (a1 : ByteArray) (a2 : ByteArray) (r1 : List (S32)) (r2 : Int) (r3 : Int) (r4 : Int) (w : World) (hs0_0 : Kd.V k32 32 w w.heap.size (fun k_ => P0_0_ k_) (.slice A0_0 l0_0.length c0_0) l0_0) (h : impl_Store_put.f k l0_0 a0_1 a1 a2 = some (r1,r2,r3,r4)) :
  Calls Try.prog 44 #[.agg #[.slice A0_0 l0_0.length c0_0,.int .i64 a0_1],.string a1,.string a2] w fun e w' => ∃ v0_ : Value,e = .returned (.tuple #[.agg #[v0_,.int .i64 r2],.int .i64 r3,.int .i64 r4]) ∧ Kd.V k32 32 w' w.heap.size (fun k_ => (P0_0_ k_ ∨ w.heap.size ≤ k_)) v0_ r1 ∧ Below w.heap.size w w' := by
 have hu25 := Try.underlying25
 have hu32 := Try.underlying32
 have hua20 := Try.underlying20
 have HO0_0 := Aside0.mk (show Kd.V k32 32 w w.heap.size (fun k_ => (P0_0_ k_ ∨ w.heap.size ≤ k_)) (.slice A0_0 l0_0.length c0_0) l0_0 from Kd.V_mono hs0_0 (fun k_ hk => .inl hk))
 have HB := Aside0.mk (Below.refl w.heap.size w)
 have H : ((impl_Store_find.f l0_0 a0_1 a1).bind fun bt369 => (if bt369.2 = true then ((impl_first.f k (([anyB (decide ((a2.size : Int) > 600)),anyI 8,anyB (a0_1 == 1000000000),anyI 7] : List AnyV))).bind fun t374 => (impl_Store_put.j0 k a1 a2 bt369.1 bt369.2 t374 l0_0 a0_1)) else (if (l0_0.length : Int) = 300 then ((impl_first.f k (([anyB (decide ((a2.size : Int) > 600)),anyI 8,anyB true,anyI 7] : List AnyV))).bind fun t378 => (impl_Store_put.j0 k a1 a2 bt369.1 bt369.2 t378 l0_0 a0_1)) else ((impl_first.f k (([anyB (decide ((a2.size : Int) > 600)),anyI 8,anyB (a0_1 == 1000000000),anyI 7] : List AnyV))).bind fun t382 => (impl_Store_put.j0 k a1 a2 bt369.1 bt369.2 t382 l0_0 a0_1))))) = some (r1,r2,r3,r4) := h
 clear h
 replace H := Option.bind_eq_some_iff.mp H
 obtain ⟨⟨t369,t370⟩,A40,H⟩ := H
 try dsimp only at H
 have A4 := Aside0.mk A40
 clear A40
 have HC5 := Aside0.mk H
 clear H
 go_enter Try.func44,Try.ntmps44
 go_upto_region 2 with (first | ((with_reducible refine gate_dst (N:=3) rfl ?_); (try (refine gate_guard (by rfl) ?_; dsimp only)); refine bxe (N:=3) (cs := #[.slice A0_0 l0_0.length c0_0,.int .i64 a0_1]) (t:=25) ?_; intro gb367 hg w6 hbox hb; replace HO0_0 := Aside0.mk (Kd.V_below (Kd.V_elderB (vA HO0_0.out) gb367 (Nat.le_of_eq hg.symm)) hb); have BK367 := Aside0.mk (hbox); have GW367 := Aside0.mk ((gw hg : w.heap.size ≤ gb367)); have GE367 := GW367; replace HB := bsA hb; clear hb hbox hg) | ((with_reducible refine gate_dst (N:=6) rfl ?_); (try (refine gate_guard (by rfl) ?_; dsimp only)); refine bxe (N:=6) (cs := #[.slice none 0 0,.int .i64 0]) (t:=25) ?_; intro gb368 hg w7 hbox hb; replace HO0_0 := Aside0.mk (Kd.V_below (Kd.V_elderB (vA HO0_0.out) gb368 (Nat.le_of_eq hg.symm)) hb); have BK368 := Aside0.mk (hbox); have GW368 := Aside0.mk ((gw hg : w.heap.size ≤ gb368)); have GE368 := GW368; replace HB := bsA hb; have NB367_368 := Aside0.mk ((nl hg BK367.out)); have NB368_367 := Aside0.mk ((ng hg BK367.out)); replace BK367 := bbA BK367 hb; clear hb hbox hg; have hnb8 := NB367_368.out; have hnc8 := NB368_367.out; obtain ⟨hcz9_0,hcz9_1⟩ := cl2 BK367.out; obtain ⟨hfz9_0,hfz9_1⟩ := fz2 BK367.out) | ((with_reducible refine gate_callee (f:=40) rfl ?_); refine goesL_ (some 17) rfl rfl Try.func40 (by kernel_rfl) rfl #[.agg #[.slice A0_0 l0_0.length c0_0,.int .i64 a0_1],.string a1] rfl mA ?_; (with_reducible refine (impl_Store_find.calls _ _ l0_0 a0_1 a1 t369 t370 _ ?side1 ?side2 A4.out).mono ?_); (case side1 => repeat (first | exact (Kd.V_reads' HO0_0.out).2.2 | (with_reducible refine Kd.C_alloc ?_ _) | (with_reducible refine Kd.C_drewN ?_ _) | (with_reducible refine Kd.C_drew ?_))); (case side2 => exact (Kd.V_reads' HO0_0.out).2.1); rintro e w10 ⟨rfl,hb⟩; refine ⟨_,rfl,?_⟩; replace HO0_0 := Aside0.mk (Kd.V_below (vA HO0_0.out) hb); replace BK367 := bbA BK367 hb; replace BK368 := bbA BK368 hb; replace HB := bsA hb; clear hb))
 (try simp only [Act.put,setIfInBounds_toArray,set_cons_zero,set_cons_succ])
 go_cut [11] (fun v11 wc => ∃ (kq : Nat) (x11_4 : Int),v11 = .int .i64 x11_4 ∧ Aside0 (impl_Store_put.j0 kq a1 a2 t369 t370 x11_4 l0_0 a0_1 = some (r1,r2,r3,r4)) ∧ Aside0 (kq ≤ k) ∧ Aside0 (Kd.V k32 32 wc w.heap.size (fun k_ => (P0_0_ k_ ∨ w.heap.size ≤ k_) ∧ k_ ≠ gb367 ∧ k_ ≠ gb368) (.slice A0_0 l0_0.length c0_0) l0_0) ∧ Aside0 (wc.heap[gb367]? = some (.cells #[(.slice A0_0 l0_0.length c0_0),.int .i64 a0_1] 25 (0,0))) ∧ Aside0 (wc.heap[gb368]? = some (.cells #[(.slice none 0 0),.int .i64 0] 25 (0,0))) ∧ Aside0 (Below w.heap.size w wc))
 case first =>
  have H := HC5.out
  clear HC5
  by_cases c11 : t370 = true
  ·subst c11
   rw [if_pos rfl] at H
   obtain ⟨y371,hy371⟩ : ∃ y_ : List AnyV,y_ = (([anyB (decide ((a2.size : Int) > 600)),anyI 8,anyB (a0_1 == 1000000000),anyI 7] : List AnyV)) := ⟨_,rfl⟩
   replace H : ((impl_first.f k y371).bind fun t374 => (impl_Store_put.j0 k a1 a2 t369 true t374 l0_0 a0_1)) = some (r1,r2,r3,r4) := by first | (rw [hy371]; with_reducible exact H) | (have H2_ := (Option.bind_some _ _).symm.trans H; rw [hy371]; with_reducible exact H2_) | (have H2_ := (Option.bind_some _ _).symm.trans H; with_reducible exact H2_) | with_reducible exact H | (rw [hy371]; exact H) | exact H
   have Ny371 := Aside0.mk hy371
   clear hy371
   replace H := Option.bind_eq_some_iff.mp H
   obtain ⟨t374,A120,H⟩ := H
   try dsimp only at H
   have A12 := Aside0.mk A120
   clear A120
   have H' := Aside0.mk H
   clear H
   have hnb13 := NB367_368.out
   have hnc13 := NB368_367.out
   obtain ⟨hcz14_0,hcz14_1⟩ := cl2 BK367.out
   obtain ⟨hfz14_0,hfz14_1⟩ := fz2 BK367.out
   go_wp2_with (first | ((with_reducible refine gate_dst (N:=40) rfl ?_); (try (refine gate_guard (by rfl) ?_; dsimp only)); refine Kd.R_lit kAny _ 20 ?hg (N:=40) ?hd (xs := ([anyB (decide ((a2.size : Int) > 600)),anyI 8,anyB (a0_1 == 1000000000),anyI 7] : List AnyV)) (inner := [.iface 4 (.bool (decide ((a2.size : Int) > 600))),.iface 3 (.int .i64 8),.iface 4 (.bool (a0_1 == 1000000000)),.iface 3 (.int .i64 7)]) (ok := fun _ => True) (okp := fun _ => True) ?hr ?hp (fun _ hk => hk) trivial (Below.refl _ _) (Nat.le_refl _) (by simp) ?_; (case hd => rfl); (case hg => rfl); (case hr => first | (go_simp; done) | (go_simp; rfl)); (case hp => exact (Reps.one (show Kd.M kAny _ _ _ (anyB (decide ((a2.size : Int) > 600))) [.iface 4 (.bool (decide ((a2.size : Int) > 600)))] from rfl) (Reps.one (show Kd.M kAny _ _ _ (anyI 8) [.iface 3 (.int .i64 8)] from rfl) (Reps.one (show Kd.M kAny _ _ _ (anyB (a0_1 == 1000000000)) [.iface 4 (.bool (a0_1 == 1000000000))] from rfl) (Reps.one (show Kd.M kAny _ _ _ (anyI 7) [.iface 3 (.int .i64 7)] from rfl) (Reps.none _ _)))))); intro v372 w15 ho16 hb hg_ hnew_; clear hg_ hnew_; (first | rw [← Ny371.out] at ho16 | (simp only [Int.reduceToNat] at ho16; rw [← Ny371.out] at ho16)); replace HO0_0 := Aside0.mk (Kd.V_elder' (vA HO0_0.out) (Kd.R_base ho16) hb); have HO373 := Aside0.mk (Kd.R_lower (Kd.R_newM (M:=fun k_ => (w.heap.size ≤ k_)) ho16 (below_size bA) (fun k_ h_ => h_)) (below_size bA)); replace BK367 := bbA BK367 hb; replace BK368 := bbA BK368 hb; replace HB := bsA hb; clear hb ho16; obtain ⟨Ao17,co17,eo17⟩ := Kd.R_slice HO373.out; subst eo17) | ((with_reducible refine gate_callee (f:=23) rfl ?_); refine goesL_ (some 41) rfl rfl Try.func23 (by kernel_rfl) rfl #[.slice Ao17 y371.length co17] rfl mA ?_; (with_reducible refine (impl_first.calls k _ _ y371 t374 _ ?side1 ?side2 A12.out).mono ?_); (case side1 => repeat (first | exact (Kd.R_reads' HO373.out).2.2 | (with_reducible refine Kd.C_alloc ?_ _) | (with_reducible refine Kd.C_drewN ?_ _) | (with_reducible refine Kd.C_drew ?_))); (case side2 => exact (Kd.R_reads' HO373.out).2.1); rintro e w' ⟨rfl,⟨nd,rfl⟩⟩; refine ⟨_,rfl,?_⟩))
   go_meet
   case rel => exact ⟨_,(t374),(by first | rfl | (simp; done) | (simp [*]; done)),H',⟨by first | omega | exact Nat.le_refl _⟩,⟨by (with_reducible repeat (first | apply Kd.V_alloc | apply Kd.V_drewN | apply Kd.V_drew)); exact Kd.V_mono HO0_0.out (fun _ hk => ⟨hk.1.1.1,⟨hk.1.1.2,hk.1.2⟩⟩)⟩,⟨kA BK367.out⟩,⟨kA BK368.out⟩,⟨bA⟩⟩
  ·replace c11 := Bool.eq_false_iff.mpr c11
   subst c11
   rw [if_neg (show ¬ (false = true) by decide)] at H
   by_cases c18 : (l0_0.length : Int) = 300
   ·rw [if_pos c18] at H
    have c18b0 : ((l0_0.length : Int) == 300) = true := beq_iff_eq.mpr c18
    have c18b1 : ((l0_0.length : Int) != 300) = false := bne_eq_false_iff_eq.mpr c18
    clear c18
    (first | rw [c18b0] | (simp only [i64_w,i32_w]; rw [c18b0]) | skip)
    obtain ⟨y375,hy375⟩ : ∃ y_ : List AnyV,y_ = (([anyB (decide ((a2.size : Int) > 600)),anyI 8,anyB true,anyI 7] : List AnyV)) := ⟨_,rfl⟩
    replace H : ((impl_first.f k y375).bind fun t378 => (impl_Store_put.j0 k a1 a2 t369 false t378 l0_0 a0_1)) = some (r1,r2,r3,r4) := by first | (rw [hy375]; with_reducible exact H) | (have H2_ := (Option.bind_some _ _).symm.trans H; rw [hy375]; with_reducible exact H2_) | (have H2_ := (Option.bind_some _ _).symm.trans H; with_reducible exact H2_) | with_reducible exact H | (rw [hy375]; exact H) | exact H
    have Ny375 := Aside0.mk hy375
    clear hy375
    replace H := Option.bind_eq_some_iff.mp H
    obtain ⟨t378,A190,H⟩ := H
    try dsimp only at H
    have A19 := Aside0.mk A190
    clear A190
    have H' := Aside0.mk H
    clear H
    have hnb20 := NB367_368.out
    have hnc20 := NB368_367.out
    obtain ⟨hcz21_0,hcz21_1⟩ := cl2 BK367.out
    obtain ⟨hfz21_0,hfz21_1⟩ := fz2 BK367.out
    go_wp2_with (first | ((with_reducible refine gate_dst (N:=40) rfl ?_); (try (refine gate_guard (by rfl) ?_; dsimp only)); refine Kd.R_lit kAny _ 20 ?hg (N:=40) ?hd (xs := ([anyB (decide ((a2.size : Int) > 600)),anyI 8,anyB true,anyI 7] : List AnyV)) (inner := [.iface 4 (.bool (decide ((a2.size : Int) > 600))),.iface 3 (.int .i64 8),.iface 4 (.bool true),.iface 3 (.int .i64 7)]) (ok := fun _ => True) (okp := fun _ => True) ?hr ?hp (fun _ hk => hk) trivial (Below.refl _ _) (Nat.le_refl _) (by simp) ?_; (case hd => rfl); (case hg => rfl); (case hr => first | (go_simp; done) | (go_simp; rfl)); (case hp => exact (Reps.one (show Kd.M kAny _ _ _ (anyB (decide ((a2.size : Int) > 600))) [.iface 4 (.bool (decide ((a2.size : Int) > 600)))] from rfl) (Reps.one (show Kd.M kAny _ _ _ (anyI 8) [.iface 3 (.int .i64 8)] from rfl) (Reps.one (show Kd.M kAny _ _ _ (anyB true) [.iface 4 (.bool true)] from rfl) (Reps.one (show Kd.M kAny _ _ _ (anyI 7) [.iface 3 (.int .i64 7)] from rfl) (Reps.none _ _)))))); intro v376 w22 ho23 hb hg_ hnew_; clear hg_ hnew_; (first | rw [← Ny375.out] at ho23 | (simp only [Int.reduceToNat] at ho23; rw [← Ny375.out] at ho23)); replace HO0_0 := Aside0.mk (Kd.V_elder' (vA HO0_0.out) (Kd.R_base ho23) hb); have HO377 := Aside0.mk (Kd.R_lower (Kd.R_newM (M:=fun k_ => (w.heap.size ≤ k_)) ho23 (below_size bA) (fun k_ h_ => h_)) (below_size bA)); replace BK367 := bbA BK367 hb; replace BK368 := bbA BK368 hb; replace HB := bsA hb; clear hb ho23; obtain ⟨Ao24,co24,eo24⟩ := Kd.R_slice HO377.out; subst eo24) | ((with_reducible refine gate_callee (f:=23) rfl ?_); refine goesL_ (some 41) rfl rfl Try.func23 (by kernel_rfl) rfl #[.slice Ao24 y375.length co24] rfl mA ?_; (with_reducible refine (impl_first.calls k _ _ y375 t378 _ ?side1 ?side2 A19.out).mono ?_); (case side1 => repeat (first | exact (Kd.R_reads' HO377.out).2.2 | (with_reducible refine Kd.C_alloc ?_ _) | (with_reducible refine Kd.C_drewN ?_ _) | (with_reducible refine Kd.C_drew ?_))); (case side2 => exact (Kd.R_reads' HO377.out).2.1); rintro e w' ⟨rfl,⟨nd,rfl⟩⟩; refine ⟨_,rfl,?_⟩))
    go_meet
    case rel => exact ⟨_,(t378),(by first | rfl | (simp; done) | (simp [*]; done)),H',⟨by first | omega | exact Nat.le_refl _⟩,⟨by (with_reducible repeat (first | apply Kd.V_alloc | apply Kd.V_drewN | apply Kd.V_drew)); exact Kd.V_mono HO0_0.out (fun _ hk => ⟨hk.1.1.1,⟨hk.1.1.2,hk.1.2⟩⟩)⟩,⟨kA BK367.out⟩,⟨kA BK368.out⟩,⟨bA⟩⟩
   ·rw [if_neg c18] at H
    have c18b0 : ((l0_0.length : Int) == 300) = false := beq_eq_false_iff_ne.mpr c18
    have c18b1 : ((l0_0.length : Int) != 300) = true := bne_iff_ne.mpr c18
    (first | rw [c18b0] | (simp only [i64_w,i32_w]; rw [c18b0]) | skip)
    obtain ⟨y379,hy379⟩ : ∃ y_ : List AnyV,y_ = (([anyB (decide ((a2.size : Int) > 600)),anyI 8,anyB (a0_1 == 1000000000),anyI 7] : List AnyV)) := ⟨_,rfl⟩
    replace H : ((impl_first.f k y379).bind fun t382 => (impl_Store_put.j0 k a1 a2 t369 false t382 l0_0 a0_1)) = some (r1,r2,r3,r4) := by first | (rw [hy379]; with_reducible exact H) | (have H2_ := (Option.bind_some _ _).symm.trans H; rw [hy379]; with_reducible exact H2_) | (have H2_ := (Option.bind_some _ _).symm.trans H; with_reducible exact H2_) | with_reducible exact H | (rw [hy379]; exact H) | exact H
    have Ny379 := Aside0.mk hy379
    clear hy379
    replace H := Option.bind_eq_some_iff.mp H
    obtain ⟨t382,A250,H⟩ := H
    try dsimp only at H
    have A25 := Aside0.mk A250
    clear A250
    have H' := Aside0.mk H
    clear H
    have hnb26 := NB367_368.out
    have hnc26 := NB368_367.out
    obtain ⟨hcz27_0,hcz27_1⟩ := cl2 BK367.out
    obtain ⟨hfz27_0,hfz27_1⟩ := fz2 BK367.out
    go_wp2_with (first | ((with_reducible refine gate_dst (N:=40) rfl ?_); (try (refine gate_guard (by rfl) ?_; dsimp only)); refine Kd.R_lit kAny _ 20 ?hg (N:=40) ?hd (xs := ([anyB (decide ((a2.size : Int) > 600)),anyI 8,anyB (a0_1 == 1000000000),anyI 7] : List AnyV)) (inner := [.iface 4 (.bool (decide ((a2.size : Int) > 600))),.iface 3 (.int .i64 8),.iface 4 (.bool (a0_1 == 1000000000)),.iface 3 (.int .i64 7)]) (ok := fun _ => True) (okp := fun _ => True) ?hr ?hp (fun _ hk => hk) trivial (Below.refl _ _) (Nat.le_refl _) (by simp) ?_; (case hd => rfl); (case hg => rfl); (case hr => first | (go_simp; done) | (go_simp; rfl)); (case hp => exact (Reps.one (show Kd.M kAny _ _ _ (anyB (decide ((a2.size : Int) > 600))) [.iface 4 (.bool (decide ((a2.size : Int) > 600)))] from rfl) (Reps.one (show Kd.M kAny _ _ _ (anyI 8) [.iface 3 (.int .i64 8)] from rfl) (Reps.one (show Kd.M kAny _ _ _ (anyB (a0_1 == 1000000000)) [.iface 4 (.bool (a0_1 == 1000000000))] from rfl) (Reps.one (show Kd.M kAny _ _ _ (anyI 7) [.iface 3 (.int .i64 7)] from rfl) (Reps.none _ _)))))); intro v380 w28 ho29 hb hg_ hnew_; clear hg_ hnew_; (first | rw [← Ny379.out] at ho29 | (simp only [Int.reduceToNat] at ho29; rw [← Ny379.out] at ho29)); replace HO0_0 := Aside0.mk (Kd.V_elder' (vA HO0_0.out) (Kd.R_base ho29) hb); have HO381 := Aside0.mk (Kd.R_lower (Kd.R_newM (M:=fun k_ => (w.heap.size ≤ k_)) ho29 (below_size bA) (fun k_ h_ => h_)) (below_size bA)); replace BK367 := bbA BK367 hb; replace BK368 := bbA BK368 hb; replace HB := bsA hb; clear hb ho29; obtain ⟨Ao30,co30,eo30⟩ := Kd.R_slice HO381.out; subst eo30) | ((with_reducible refine gate_callee (f:=23) rfl ?_); refine goesL_ (some 41) rfl rfl Try.func23 (by kernel_rfl) rfl #[.slice Ao30 y379.length co30] rfl mA ?_; (with_reducible refine (impl_first.calls k _ _ y379 t382 _ ?side1 ?side2 A25.out).mono ?_); (case side1 => repeat (first | exact (Kd.R_reads' HO381.out).2.2 | (with_reducible refine Kd.C_alloc ?_ _) | (with_reducible refine Kd.C_drewN ?_ _) | (with_reducible refine Kd.C_drew ?_))); (case side2 => exact (Kd.R_reads' HO381.out).2.1); rintro e w' ⟨rfl,⟨nd,rfl⟩⟩; refine ⟨_,rfl,?_⟩))
    go_meet
    case rel => exact ⟨_,(t382),(by first | rfl | (simp; done) | (simp [*]; done)),H',⟨by first | omega | exact Nat.le_refl _⟩,⟨by (with_reducible repeat (first | apply Kd.V_alloc | apply Kd.V_drewN | apply Kd.V_drew)); exact Kd.V_mono HO0_0.out (fun _ hk => ⟨hk.1.1.1,⟨hk.1.1.2,hk.1.2⟩⟩)⟩,⟨kA BK367.out⟩,⟨kA BK368.out⟩,⟨bA⟩⟩
 case rest =>
  clear HC5
  try clear c1
  try clear c2
  try clear p2
  try clear c4
  try clear c8
  try clear c11
  try clear c13
  try clear c18
  try clear c18b0
  try clear c18b1
  try clear c20
  try clear c23
  try clear c26
  try clear hcz14_0 hcz14_1
  try clear hcz21_0 hcz21_1
  try clear hcz27_0 hcz27_1
  try clear hcz9_0 hcz9_1
  try clear hfz14_0 hfz14_1
  try clear hfz21_0 hfz21_1
  try clear hfz27_0 hfz27_1
  try clear hfz9_0 hfz9_1
  obtain ⟨kq,x11_4,rfl,HA,HJ4,HO_368000,BK367,BK368,HB⟩ := hcut
  cases kq with
  | zero => exact absurd HA.out (by simp [impl_Store_put.j0])
  | succ kj4 =>
   have H := HA.out
   clear HA
   simp only [impl_Store_put.j0] at H
   by_cases c31 : x11_4 = 0
   ·rw [if_pos c31] at H
    have c31b0 : (x11_4 == 0) = true := beq_iff_eq.mpr c31
    have c31b1 : (x11_4 != 0) = false := bne_eq_false_iff_eq.mpr c31
    clear c31
    replace H := Option.bind_eq_some_iff.mp H
    obtain ⟨⟨t383,t386⟩,A320,H⟩ := H
    try dsimp only at H
    have A32 := Aside0.mk A320
    clear A320
    by_cases c33 : t370 = true
    ·subst c33
     rw [if_pos rfl] at H
     by_cases c34 : 0 ≤ t369
     ·rw [if_pos c34] at H
      have c34b0 : decide (0 ≤ t369) = true := decide_eq_true c34
      clear c34
      by_cases c35 : t369 < (t383.length : Int)
      ·rw [if_pos c35] at H
       have c35b0 : decide (t369 < (t383.length : Int)) = true := decide_eq_true c35
       clear c35
       obtain ⟨y389,hy389⟩ : ∃ y_ : List (S32),y_ = (t383.set (t369 : Int).toNat (⟨a1,a0_1,a2⟩ : S32)) := ⟨_,rfl⟩
       replace H : (some (y389,wrap64 (t386 + 1),a0_1,0)) = some (r1,r2,r3,r4) := by first | (rw [hy389]; with_reducible exact H) | (have H2_ := (Option.bind_some _ _).symm.trans H; rw [hy389]; with_reducible exact H2_) | (have H2_ := (Option.bind_some _ _).symm.trans H; with_reducible exact H2_) | with_reducible exact H | (rw [hy389]; exact H) | exact H
       have Ny389 := Aside0.mk hy389
       clear hy389
       simp only [Option.some.injEq,Prod.mk.injEq] at H
       obtain ⟨rfl,rfl,rfl,rfl⟩ := H
       try go_wp2
       replace HO_368000 := Aside0.mk (Kd.V_drew HO_368000.out)
       replace BK367 := Aside0.mk (blk_drew BK367.out)
       replace BK368 := Aside0.mk (blk_drew BK368.out)
       replace HB := Aside0.mk (below_drew1 HB.out)
       refine start_ (n:=11) (S:=fun w' => w'.cell? ⟨gb367,0,none⟩ = some (.slice A0_0 l0_0.length c0_0) ∧ w'.cell? ⟨gb367,1,none⟩ = some (.int .i64 a0_1)) (ds := []) (bm 11 0) (by kernel_rfl) rfl rfl ⟨bl BK367 0,bl BK367 1⟩ (fun hHeld => ?_); refine with_tabW impl_Store_put.tab5 impl_Store_put.bits5 (fun HT_ HW_ => ?_)
       generalize wc.drew = w37 at HO_368000 BK367 BK368 HB hHeld ⊢
       refine pV_ 2 48 (bm 11 4) HT_.out ?_
       refine pV_ 3 49 (bm 11 12) HT_.out ?_
       refine pV_ 5 51 (bm 11 44) HT_.out ?_
       refine tk 0 46 (bm 11 45) HT_.out HW_.out hHeld ?_
       refine tk 4 50 (bm 11 61) HT_.out HW_.out hHeld ?_
       refine pV_ 6 52 (bm 11 125) HT_.out ?_
       refine join_ (σ := Value × Nat × Nat) 2 (bm 11 511) (fun s_ => [(47,.agg #[s_.1,.int .i64 t386]),(12,.pointer (some ⟨s_.2.1,0,none⟩)),(13,.pointer (some ⟨s_.2.2,0,none⟩))]) (fun s_ w' => (w'.cell? ⟨gb367,0,none⟩ = some (.slice A0_0 l0_0.length c0_0) ∧ w'.cell? ⟨gb367,1,none⟩ = some (.int .i64 a0_1)) ∧ (Kd.R k32 32 w' w.heap.size (fun k_ => (w.heap.size ≤ k_) ∧ k_ ≠ s_.2.2) s_.1 t383) ∧ (Kd.V k32 32 w' w.heap.size (fun k_ => (P0_0_ k_ ∨ w.heap.size ≤ k_) ∧ some k_ ≠ (s_.1 : Value).ownBlock ∧ k_ ≠ gb367 ∧ k_ ≠ gb368 ∧ k_ ≠ s_.2.1 ∧ k_ ≠ s_.2.2) (.slice A0_0 l0_0.length c0_0) l0_0) ∧ (w'.heap[gb367]? = some (.cells #[.slice A0_0 l0_0.length c0_0,.int .i64 a0_1] 25 (0,0))) ∧ (w'.heap[gb368]? = some (.cells #[.slice none 0 0,.int .i64 0] 25 (0,0))) ∧ (w'.heap[s_.2.1]? = some (.cells #[.slice none 0 0,.int .i64 0] 25 (0,0))) ∧ (w'.heap[s_.2.2]? = some (.cells #[.string (⟨#[]⟩ : ByteArray),.int .i64 0,.string (⟨#[]⟩ : ByteArray)] 32 (0,0))) ∧ (w.heap.size ≤ s_.2.1) ∧ (w.heap.size ≤ s_.2.1) ∧ (gb367 ≠ s_.2.1) ∧ (s_.2.1 ≠ gb367) ∧ (gb368 ≠ s_.2.1) ∧ (s_.2.1 ≠ gb368) ∧ (s_.2.2 ≠ s_.2.1) ∧ (s_.2.1 ≠ s_.2.2) ∧ (w.heap.size ≤ s_.2.2) ∧ (w.heap.size ≤ s_.2.2) ∧ (gb367 ≠ s_.2.2) ∧ (s_.2.2 ≠ gb367) ∧ (gb368 ≠ s_.2.2) ∧ (s_.2.2 ≠ gb368) ∧ (Below w.heap.size w w')) ?_ ?_
       rotate_left
       ·intro hJ1_7_8
        refine join_ (σ := Value × Nat) 3 (bm 11 255) (fun s_ => [(47,.agg #[s_.1,.int .i64 t386]),(12,.pointer (some ⟨s_.2,0,none⟩))]) (fun s_ w' => (w'.cell? ⟨gb367,0,none⟩ = some (.slice A0_0 l0_0.length c0_0) ∧ w'.cell? ⟨gb367,1,none⟩ = some (.int .i64 a0_1)) ∧ (Kd.R k32 32 w' w.heap.size (fun k_ => (w.heap.size ≤ k_)) s_.1 t383) ∧ (Kd.V k32 32 w' w.heap.size (fun k_ => (P0_0_ k_ ∨ w.heap.size ≤ k_) ∧ some k_ ≠ (s_.1 : Value).ownBlock ∧ k_ ≠ gb367 ∧ k_ ≠ gb368 ∧ k_ ≠ s_.2) (.slice A0_0 l0_0.length c0_0) l0_0) ∧ (w'.heap[gb367]? = some (.cells #[.slice A0_0 l0_0.length c0_0,.int .i64 a0_1] 25 (0,0))) ∧ (w'.heap[gb368]? = some (.cells #[.slice none 0 0,.int .i64 0] 25 (0,0))) ∧ (w'.heap[s_.2]? = some (.cells #[.slice none 0 0,.int .i64 0] 25 (0,0))) ∧ (w.heap.size ≤ s_.2) ∧ (w.heap.size ≤ s_.2) ∧ (gb367 ≠ s_.2) ∧ (s_.2 ≠ gb367) ∧ (gb368 ≠ s_.2) ∧ (s_.2 ≠ gb368) ∧ (Below w.heap.size w w')) ?_ ?_
        rotate_left
        ·intro hJ1_7
         refine join_ (σ := Value × Nat) 3 (bm 11 383) (fun s_ => [(47,.agg #[s_.1,.int .i64 t386]),(13,.pointer (some ⟨s_.2,0,none⟩))]) (fun s_ w' => (w'.cell? ⟨gb367,0,none⟩ = some (.slice A0_0 l0_0.length c0_0) ∧ w'.cell? ⟨gb367,1,none⟩ = some (.int .i64 a0_1)) ∧ (Kd.R k32 32 w' w.heap.size (fun k_ => (w.heap.size ≤ k_) ∧ k_ ≠ s_.2) s_.1 t383) ∧ (Kd.V k32 32 w' w.heap.size (fun k_ => (P0_0_ k_ ∨ w.heap.size ≤ k_) ∧ some k_ ≠ (s_.1 : Value).ownBlock ∧ k_ ≠ gb367 ∧ k_ ≠ gb368 ∧ k_ ≠ s_.2) (.slice A0_0 l0_0.length c0_0) l0_0) ∧ (w'.heap[gb367]? = some (.cells #[.slice A0_0 l0_0.length c0_0,.int .i64 a0_1] 25 (0,0))) ∧ (w'.heap[gb368]? = some (.cells #[.slice none 0 0,.int .i64 0] 25 (0,0))) ∧ (w'.heap[s_.2]? = some (.cells #[.string (⟨#[]⟩ : ByteArray),.int .i64 0,.string (⟨#[]⟩ : ByteArray)] 32 (0,0))) ∧ (w.heap.size ≤ s_.2) ∧ (w.heap.size ≤ s_.2) ∧ (gb367 ≠ s_.2) ∧ (s_.2 ≠ gb367) ∧ (gb368 ≠ s_.2) ∧ (s_.2 ≠ gb368) ∧ (Below w.heap.size w w')) ?_ ?_
         rotate_left
         ·intro hJ1_8
          refine join_ (σ := Nat × Nat) 3 (bm 11 509) (fun s_ => [(12,.pointer (some ⟨s_.1,0,none⟩)),(13,.pointer (some ⟨s_.2,0,none⟩))]) (fun s_ w' => (w'.cell? ⟨gb367,0,none⟩ = some (.slice A0_0 l0_0.length c0_0) ∧ w'.cell? ⟨gb367,1,none⟩ = some (.int .i64 a0_1)) ∧ (Kd.V k32 32 w' w.heap.size (fun k_ => (P0_0_ k_ ∨ w.heap.size ≤ k_) ∧ k_ ≠ gb367 ∧ k_ ≠ gb368 ∧ k_ ≠ s_.1 ∧ k_ ≠ s_.2) (.slice A0_0 l0_0.length c0_0) l0_0) ∧ (w'.heap[gb367]? = some (.cells #[.slice A0_0 l0_0.length c0_0,.int .i64 a0_1] 25 (0,0))) ∧ (w'.heap[gb368]? = some (.cells #[.slice none 0 0,.int .i64 0] 25 (0,0))) ∧ (w'.heap[s_.1]? = some (.cells #[.slice none 0 0,.int .i64 0] 25 (0,0))) ∧ (w'.heap[s_.2]? = some (.cells #[.string (⟨#[]⟩ : ByteArray),.int .i64 0,.string (⟨#[]⟩ : ByteArray)] 32 (0,0))) ∧ (w.heap.size ≤ s_.1) ∧ (w.heap.size ≤ s_.1) ∧ (gb367 ≠ s_.1) ∧ (s_.1 ≠ gb367) ∧ (gb368 ≠ s_.1) ∧ (s_.1 ≠ gb368) ∧ (s_.2 ≠ s_.1) ∧ (s_.1 ≠ s_.2) ∧ (w.heap.size ≤ s_.2) ∧ (w.heap.size ≤ s_.2) ∧ (gb367 ≠ s_.2) ∧ (s_.2 ≠ gb367) ∧ (gb368 ≠ s_.2) ∧ (s_.2 ≠ gb368) ∧ (Below w.heap.size w w')) ?_ ?_
          rotate_left
          ·intro hJ7_8
           refine join_ (σ := Value) 4 (bm 11 127) (fun s_ => [(47,.agg #[s_,.int .i64 t386])]) (fun s_ w' => (w'.cell? ⟨gb367,0,none⟩ = some (.slice A0_0 l0_0.length c0_0) ∧ w'.cell? ⟨gb367,1,none⟩ = some (.int .i64 a0_1)) ∧ (Kd.R k32 32 w' w.heap.size (fun k_ => (w.heap.size ≤ k_)) s_ t383) ∧ (Kd.V k32 32 w' w.heap.size (fun k_ => (P0_0_ k_ ∨ w.heap.size ≤ k_) ∧ some k_ ≠ (s_ : Value).ownBlock ∧ k_ ≠ gb367 ∧ k_ ≠ gb368) (.slice A0_0 l0_0.length c0_0) l0_0) ∧ (w'.heap[gb367]? = some (.cells #[.slice A0_0 l0_0.length c0_0,.int .i64 a0_1] 25 (0,0))) ∧ (w'.heap[gb368]? = some (.cells #[.slice none 0 0,.int .i64 0] 25 (0,0))) ∧ (Below w.heap.size w w')) ?_ ?_
           rotate_left
           ·intro hJ1
            refine join_ (σ := Nat) 4 (bm 11 253) (fun s_ => [(12,.pointer (some ⟨s_,0,none⟩))]) (fun s_ w' => (w'.cell? ⟨gb367,0,none⟩ = some (.slice A0_0 l0_0.length c0_0) ∧ w'.cell? ⟨gb367,1,none⟩ = some (.int .i64 a0_1)) ∧ (Kd.V k32 32 w' w.heap.size (fun k_ => (P0_0_ k_ ∨ w.heap.size ≤ k_) ∧ k_ ≠ gb367 ∧ k_ ≠ gb368 ∧ k_ ≠ s_) (.slice A0_0 l0_0.length c0_0) l0_0) ∧ (w'.heap[gb367]? = some (.cells #[.slice A0_0 l0_0.length c0_0,.int .i64 a0_1] 25 (0,0))) ∧ (w'.heap[gb368]? = some (.cells #[.slice none 0 0,.int .i64 0] 25 (0,0))) ∧ (w'.heap[s_]? = some (.cells #[.slice none 0 0,.int .i64 0] 25 (0,0))) ∧ (w.heap.size ≤ s_) ∧ (w.heap.size ≤ s_) ∧ (gb367 ≠ s_) ∧ (s_ ≠ gb367) ∧ (gb368 ≠ s_) ∧ (s_ ≠ gb368) ∧ (Below w.heap.size w w')) ?_ ?_
            rotate_left
            ·intro hJ7
             refine join_ (σ := Nat) 4 (bm 11 381) (fun s_ => [(13,.pointer (some ⟨s_,0,none⟩))]) (fun s_ w' => (w'.cell? ⟨gb367,0,none⟩ = some (.slice A0_0 l0_0.length c0_0) ∧ w'.cell? ⟨gb367,1,none⟩ = some (.int .i64 a0_1)) ∧ (Kd.V k32 32 w' w.heap.size (fun k_ => (P0_0_ k_ ∨ w.heap.size ≤ k_) ∧ k_ ≠ gb367 ∧ k_ ≠ gb368 ∧ k_ ≠ s_) (.slice A0_0 l0_0.length c0_0) l0_0) ∧ (w'.heap[gb367]? = some (.cells #[.slice A0_0 l0_0.length c0_0,.int .i64 a0_1] 25 (0,0))) ∧ (w'.heap[gb368]? = some (.cells #[.slice none 0 0,.int .i64 0] 25 (0,0))) ∧ (w'.heap[s_]? = some (.cells #[.string (⟨#[]⟩ : ByteArray),.int .i64 0,.string (⟨#[]⟩ : ByteArray)] 32 (0,0))) ∧ (w.heap.size ≤ s_) ∧ (w.heap.size ≤ s_) ∧ (gb367 ≠ s_) ∧ (s_ ≠ gb367) ∧ (gb368 ≠ s_) ∧ (s_ ≠ gb368) ∧ (Below w.heap.size w w')) ?_ ?_
             rotate_left
             ·intro hJ8
              refine three_ (i:=1) (j:=7) (k:=8) (Ni := some 47) (Nj := some 12) (Nk := some 13) (bm 11 127) (bm 11 253) (bm 11 381) rfl rfl rfl rfl rfl rfl (three_of HT_.out (by kernel_rfl)) (by decide) (by decide) (by decide) (fun K hK => ?_) (fun K hK => ?_) (fun K hK => ?_)
              ·skip
               refine goes_ Try.func36 (by kernel_rfl) rfl #[.agg #[.slice A0_0 l0_0.length c0_0,.int .i64 a0_1]] (by rfl) rfl rfl mA ?_
               with_reducible refine (impl_Store_copied.calls _ _ l0_0 a0_1 t383 t386 _ ?side1 ?side2 A32.out).mono ?_
               (case side1 => repeat (first | exact (Kd.V_reads' HO_368000.out).2.2 | (with_reducible refine Kd.C_alloc ?_ _) | (with_reducible refine Kd.C_drewN ?_ _) | (with_reducible refine Kd.C_drew ?_)))
               (case side2 => exact (Kd.V_reads' HO_368000.out).2.1)
               rintro e w38 ⟨v384,rfl,ho0,hb⟩
               refine ⟨_,rfl,?_⟩
               replace HO_368000 := Aside0.mk (Kd.V_elder' (vA HO_368000.out) (Kd.R_base ho0) hb)
               have HO385 := Aside0.mk (Kd.R_lower (Kd.R_newM (M:=fun k_ => (w.heap.size ≤ k_)) ho0 (below_size bA) (fun k_ h_ => h_)) (below_size bA))
               replace BK367 := bbA BK367 hb
               replace BK368 := bbA BK368 hb
               replace HB := bsA hb
               clear hb
               (try clear ho0)
               refine hK.out _ _ ⟨bl BK367 0,bl BK367 1⟩ (fun hHeld => ?_)
               clear hK K
               refine nw 47 ?_
               exact norm_ nm (hJ1 (v384) _ ⟨hHeld,(rM HO385.out (fun _ hk => hk.1)),(vM HO_368000.out (fun _ hk => ⟨hk.1.1,⟨hk.2,⟨hk.1.2.1,hk.1.2.2⟩⟩⟩)),(kA BK367.out),(kA BK368.out),bA⟩)
              ·skip
               refine bxs (N:=12) (cs := #[.slice none 0 0,.int .i64 0]) (t:=25) ?_
               intro gb387 hg w38 hbox hb
               replace HO_368000 := Aside0.mk (Kd.V_below (Kd.V_elderB (vA HO_368000.out) gb387 (Nat.le_of_eq hg.symm)) hb)
               have BK387 := Aside0.mk (hbox)
               have GW387 := Aside0.mk ((gw hg : w.heap.size ≤ gb387))
               have GE387 := GW387
               replace HB := bsA hb
               have NB367_387 := Aside0.mk ((nl hg BK367.out))
               have NB387_367 := Aside0.mk ((ng hg BK367.out))
               replace BK367 := bbA BK367 hb
               have NB368_387 := Aside0.mk ((nl hg BK368.out))
               have NB387_368 := Aside0.mk ((ng hg BK368.out))
               replace BK368 := bbA BK368 hb
               clear hb hbox hg
               refine hK.out _ _ ⟨bl BK367 0,bl BK367 1⟩ (fun hHeld => ?_)
               clear hK K
               refine nw 12 ?_
               exact norm_ nm (hJ7 (gb387) _ ⟨hHeld,(vM HO_368000.out (fun _ hk => ⟨hk.1.1,⟨hk.1.2.1,⟨hk.1.2.2,hk.2⟩⟩⟩)),(kA BK367.out),(kA BK368.out),(kA BK387.out),GW387.out,GE387.out,NB367_387.out,NB387_367.out,NB368_387.out,NB387_368.out,bA⟩)
              ·skip
               refine bxs (N:=13) (cs := #[.string (⟨#[]⟩ : ByteArray),.int .i64 0,.string (⟨#[]⟩ : ByteArray)]) (t:=32) ?_
               intro gb388 hg w38 hbox hb
               replace HO_368000 := Aside0.mk (Kd.V_below (Kd.V_elderB (vA HO_368000.out) gb388 (Nat.le_of_eq hg.symm)) hb)
               have BK388 := Aside0.mk (hbox)
               have GW388 := Aside0.mk ((gw hg : w.heap.size ≤ gb388))
               have GE388 := GW388
               replace HB := bsA hb
               have NB367_388 := Aside0.mk ((nl hg BK367.out))
               have NB388_367 := Aside0.mk ((ng hg BK367.out))
               replace BK367 := bbA BK367 hb
               have NB368_388 := Aside0.mk ((nl hg BK368.out))
               have NB388_368 := Aside0.mk ((ng hg BK368.out))
               replace BK368 := bbA BK368 hb
               clear hb hbox hg
               refine hK.out _ _ ⟨bl BK367 0,bl BK367 1⟩ (fun hHeld => ?_)
               clear hK K
               refine nw 13 ?_
               exact norm_ nm (hJ8 (gb388) _ ⟨hHeld,(vM HO_368000.out (fun _ hk => ⟨hk.1.1,⟨hk.1.2.1,⟨hk.1.2.2,hk.2⟩⟩⟩)),(kA BK367.out),(kA BK368.out),(kA BK388.out),GW388.out,GE388.out,NB367_388.out,NB388_367.out,NB368_388.out,NB388_368.out,bA⟩)
             ·skip
              rintro gb388 w39 ⟨hS_,h0_,h1_,h2_,h3_,h4_,h5_,h6_,h7_,h8_,h9_,h10_⟩
              replace HO_368000 : Aside0 (Kd.V k32 32 w39 w.heap.size (fun k_ => (P0_0_ k_ ∨ w.heap.size ≤ k_) ∧ k_ ≠ gb367 ∧ k_ ≠ gb368 ∧ k_ ≠ gb388) (.slice A0_0 l0_0.length c0_0) l0_0) := ⟨h0_⟩
              replace BK367 : Aside0 (w39.heap[gb367]? = some (.cells #[.slice A0_0 l0_0.length c0_0,.int .i64 a0_1] 25 (0,0))) := ⟨h1_⟩
              replace BK368 : Aside0 (w39.heap[gb368]? = some (.cells #[.slice none 0 0,.int .i64 0] 25 (0,0))) := ⟨h2_⟩
              have BK388 : Aside0 (w39.heap[gb388]? = some (.cells #[.string (⟨#[]⟩ : ByteArray),.int .i64 0,.string (⟨#[]⟩ : ByteArray)] 32 (0,0))) := ⟨h3_⟩
              have GW388 : Aside0 (w.heap.size ≤ gb388) := ⟨h4_⟩
              have GE388 : Aside0 (w.heap.size ≤ gb388) := ⟨h5_⟩
              have NB367_388 : Aside0 (gb367 ≠ gb388) := ⟨h6_⟩
              have NB388_367 : Aside0 (gb388 ≠ gb367) := ⟨h7_⟩
              have NB368_388 : Aside0 (gb368 ≠ gb388) := ⟨h8_⟩
              have NB388_368 : Aside0 (gb388 ≠ gb368) := ⟨h9_⟩
              replace HB : Aside0 (Below w.heap.size w w39) := ⟨h10_⟩
              clear h0_ h1_ h2_ h3_ h4_ h5_ h6_ h7_ h8_ h9_ h10_
              have hHeld : w39.cell? ⟨gb367,0,none⟩ = some (.slice A0_0 l0_0.length c0_0) ∧ w39.cell? ⟨gb367,1,none⟩ = some (.int .i64 a0_1) := hS_
              refine norm_ (a':=?_) ?_ ?_
              rotate_left
              ·simp only [putAll,Act.put,setIfInBounds_toArray,set_cons_zero,set_cons_succ]
               rfl
              refine two_ (i:=1) (j:=7) (Ni := some 47) (Nj := some 12) (bm 11 383) (bm 11 509) rfl rfl rfl rfl (two_of HT_.out (by kernel_rfl)) (by decide) (by decide) (fun K hK => ?_) (fun K hK => ?_)
              ·skip
               refine goes_ Try.func36 (by kernel_rfl) rfl #[.agg #[.slice A0_0 l0_0.length c0_0,.int .i64 a0_1]] (by rfl) rfl rfl mA ?_
               with_reducible refine (impl_Store_copied.calls _ _ l0_0 a0_1 t383 t386 _ ?side1 ?side2 A32.out).mono ?_
               (case side1 => repeat (first | exact (Kd.V_reads' HO_368000.out).2.2 | (with_reducible refine Kd.C_alloc ?_ _) | (with_reducible refine Kd.C_drewN ?_ _) | (with_reducible refine Kd.C_drew ?_)))
               (case side2 => exact (Kd.V_reads' HO_368000.out).2.1)
               rintro e w40 ⟨v384,rfl,ho0,hb⟩
               refine ⟨_,rfl,?_⟩
               replace HO_368000 := Aside0.mk (Kd.V_elder' (vA HO_368000.out) (Kd.R_base ho0) hb)
               have HO385 := Aside0.mk (Kd.R_lower (Kd.R_newB (Kd.R_newM (M:=fun k_ => (w.heap.size ≤ k_)) ho0 (below_size bA) (fun k_ h_ => h_)) (g:=gb388) (o:=.cells #[.string (⟨#[]⟩ : ByteArray),.int .i64 0,.string (⟨#[]⟩ : ByteArray)] 32 (0,0)) (kA BK388.out)) (below_size bA))
               replace BK367 := bbA BK367 hb
               replace BK368 := bbA BK368 hb
               replace BK388 := bbA BK388 hb
               replace HB := bsA hb
               clear hb
               (try clear ho0)
               refine hK.out _ _ ⟨bl BK367 0,bl BK367 1⟩ (fun hHeld => ?_)
               clear hK K
               refine nw 47 ?_
               exact norm_ nm (hJ1_8 (v384,gb388) _ ⟨hHeld,(rM HO385.out (fun _ hk => ⟨hk.1.1,hk.2⟩)),(vM HO_368000.out (fun _ hk => ⟨hk.1.1,⟨hk.2,⟨hk.1.2.1,⟨hk.1.2.2.1,hk.1.2.2.2⟩⟩⟩⟩)),(kA BK367.out),(kA BK368.out),(kA BK388.out),GW388.out,GE388.out,NB367_388.out,NB388_367.out,NB368_388.out,NB388_368.out,bA⟩)
              ·skip
               refine bxs (N:=12) (cs := #[.slice none 0 0,.int .i64 0]) (t:=25) ?_
               intro gb387 hg w40 hbox hb
               replace HO_368000 := Aside0.mk (Kd.V_below (Kd.V_elderB (vA HO_368000.out) gb387 (Nat.le_of_eq hg.symm)) hb)
               have BK387 := Aside0.mk (hbox)
               have GW387 := Aside0.mk ((gw hg : w.heap.size ≤ gb387))
               have GE387 := GW387
               replace HB := bsA hb
               have NB367_387 := Aside0.mk ((nl hg BK367.out))
               have NB387_367 := Aside0.mk ((ng hg BK367.out))
               replace BK367 := bbA BK367 hb
               have NB368_387 := Aside0.mk ((nl hg BK368.out))
               have NB387_368 := Aside0.mk ((ng hg BK368.out))
               replace BK368 := bbA BK368 hb
               have NB388_387 := Aside0.mk ((nl hg BK388.out))
               have NB387_388 := Aside0.mk ((ng hg BK388.out))
               replace BK388 := bbA BK388 hb
               clear hb hbox hg
               refine hK.out _ _ ⟨bl BK367 0,bl BK367 1⟩ (fun hHeld => ?_)
               clear hK K
               refine nw 12 ?_
               exact norm_ nm (hJ7_8 (gb387,gb388) _ ⟨hHeld,(vM HO_368000.out (fun _ hk => ⟨hk.1.1,⟨hk.1.2.1,⟨hk.1.2.2.1,⟨hk.2,hk.1.2.2.2⟩⟩⟩⟩)),(kA BK367.out),(kA BK368.out),(kA BK387.out),(kA BK388.out),GW387.out,GE387.out,NB367_387.out,NB387_367.out,NB368_387.out,NB387_368.out,NB388_387.out,NB387_388.out,GW388.out,GE388.out,NB367_388.out,NB388_367.out,NB368_388.out,NB388_368.out,bA⟩)
            ·skip
             rintro gb387 w39 ⟨hS_,h0_,h1_,h2_,h3_,h4_,h5_,h6_,h7_,h8_,h9_,h10_⟩
             replace HO_368000 : Aside0 (Kd.V k32 32 w39 w.heap.size (fun k_ => (P0_0_ k_ ∨ w.heap.size ≤ k_) ∧ k_ ≠ gb367 ∧ k_ ≠ gb368 ∧ k_ ≠ gb387) (.slice A0_0 l0_0.length c0_0) l0_0) := ⟨h0_⟩
             replace BK367 : Aside0 (w39.heap[gb367]? = some (.cells #[.slice A0_0 l0_0.length c0_0,.int .i64 a0_1] 25 (0,0))) := ⟨h1_⟩
             replace BK368 : Aside0 (w39.heap[gb368]? = some (.cells #[.slice none 0 0,.int .i64 0] 25 (0,0))) := ⟨h2_⟩
             have BK387 : Aside0 (w39.heap[gb387]? = some (.cells #[.slice none 0 0,.int .i64 0] 25 (0,0))) := ⟨h3_⟩
             have GW387 : Aside0 (w.heap.size ≤ gb387) := ⟨h4_⟩
             have GE387 : Aside0 (w.heap.size ≤ gb387) := ⟨h5_⟩
             have NB367_387 : Aside0 (gb367 ≠ gb387) := ⟨h6_⟩
             have NB387_367 : Aside0 (gb387 ≠ gb367) := ⟨h7_⟩
             have NB368_387 : Aside0 (gb368 ≠ gb387) := ⟨h8_⟩
             have NB387_368 : Aside0 (gb387 ≠ gb368) := ⟨h9_⟩
             replace HB : Aside0 (Below w.heap.size w w39) := ⟨h10_⟩
             clear h0_ h1_ h2_ h3_ h4_ h5_ h6_ h7_ h8_ h9_ h10_
             have hHeld : w39.cell? ⟨gb367,0,none⟩ = some (.slice A0_0 l0_0.length c0_0) ∧ w39.cell? ⟨gb367,1,none⟩ = some (.int .i64 a0_1) := hS_
             refine norm_ (a':=?_) ?_ ?_
             rotate_left
             ·simp only [putAll,Act.put,setIfInBounds_toArray,set_cons_zero,set_cons_succ]
              rfl
             refine two_ (i:=1) (j:=8) (Ni := some 47) (Nj := some 13) (bm 11 255) (bm 11 509) rfl rfl rfl rfl (two_of HT_.out (by kernel_rfl)) (by decide) (by decide) (fun K hK => ?_) (fun K hK => ?_)
             ·skip
              refine goes_ Try.func36 (by kernel_rfl) rfl #[.agg #[.slice A0_0 l0_0.length c0_0,.int .i64 a0_1]] (by rfl) rfl rfl mA ?_
              with_reducible refine (impl_Store_copied.calls _ _ l0_0 a0_1 t383 t386 _ ?side1 ?side2 A32.out).mono ?_
              (case side1 => repeat (first | exact (Kd.V_reads' HO_368000.out).2.2 | (with_reducible refine Kd.C_alloc ?_ _) | (with_reducible refine Kd.C_drewN ?_ _) | (with_reducible refine Kd.C_drew ?_)))
              (case side2 => exact (Kd.V_reads' HO_368000.out).2.1)
              rintro e w40 ⟨v384,rfl,ho0,hb⟩
              refine ⟨_,rfl,?_⟩
              replace HO_368000 := Aside0.mk (Kd.V_elder' (vA HO_368000.out) (Kd.R_base ho0) hb)
              have HO385 := Aside0.mk (Kd.R_lower (Kd.R_newM (M:=fun k_ => (w.heap.size ≤ k_)) ho0 (below_size bA) (fun k_ h_ => h_)) (below_size bA))
              replace BK367 := bbA BK367 hb
              replace BK368 := bbA BK368 hb
              replace BK387 := bbA BK387 hb
              replace HB := bsA hb
              clear hb
              (try clear ho0)
              refine hK.out _ _ ⟨bl BK367 0,bl BK367 1⟩ (fun hHeld => ?_)
              clear hK K
              refine nw 47 ?_
              exact norm_ nm (hJ1_7 (v384,gb387) _ ⟨hHeld,(rM HO385.out (fun _ hk => hk.1)),(vM HO_368000.out (fun _ hk => ⟨hk.1.1,⟨hk.2,⟨hk.1.2.1,⟨hk.1.2.2.1,hk.1.2.2.2⟩⟩⟩⟩)),(kA BK367.out),(kA BK368.out),(kA BK387.out),GW387.out,GE387.out,NB367_387.out,NB387_367.out,NB368_387.out,NB387_368.out,bA⟩)
             ·skip
              refine bxs (N:=13) (cs := #[.string (⟨#[]⟩ : ByteArray),.int .i64 0,.string (⟨#[]⟩ : ByteArray)]) (t:=32) ?_
              intro gb388 hg w40 hbox hb
              replace HO_368000 := Aside0.mk (Kd.V_below (Kd.V_elderB (vA HO_368000.out) gb388 (Nat.le_of_eq hg.symm)) hb)
              have BK388 := Aside0.mk (hbox)
              have GW388 := Aside0.mk ((gw hg : w.heap.size ≤ gb388))
              have GE388 := GW388
              replace HB := bsA hb
              have NB367_388 := Aside0.mk ((nl hg BK367.out))
              have NB388_367 := Aside0.mk ((ng hg BK367.out))
              replace BK367 := bbA BK367 hb
              have NB368_388 := Aside0.mk ((nl hg BK368.out))
              have NB388_368 := Aside0.mk ((ng hg BK368.out))
              replace BK368 := bbA BK368 hb
              have NB387_388 := Aside0.mk ((nl hg BK387.out))
              have NB388_387 := Aside0.mk ((ng hg BK387.out))
              replace BK387 := bbA BK387 hb
              clear hb hbox hg
              refine hK.out _ _ ⟨bl BK367 0,bl BK367 1⟩ (fun hHeld => ?_)
              clear hK K
              refine nw 13 ?_
              exact norm_ nm (hJ7_8 (gb387,gb388) _ ⟨hHeld,(vM HO_368000.out (fun _ hk => ⟨hk.1.1,⟨hk.1.2.1,⟨hk.1.2.2.1,⟨hk.1.2.2.2,hk.2⟩⟩⟩⟩)),(kA BK367.out),(kA BK368.out),(kA BK387.out),(kA BK388.out),GW387.out,GE387.out,NB367_387.out,NB387_367.out,NB368_387.out,NB387_368.out,NB388_387.out,NB387_388.out,GW388.out,GE388.out,NB367_388.out,NB388_367.out,NB368_388.out,NB388_368.out,bA⟩)
           ·skip
            rintro v384 w39 ⟨hS_,h0_,h1_,h2_,h3_,h4_⟩
            have HO385 : Aside0 (Kd.R k32 32 w39 w.heap.size (fun k_ => (w.heap.size ≤ k_)) v384 t383) := ⟨h0_⟩
            replace HO_368000 : Aside0 (Kd.V k32 32 w39 w.heap.size (fun k_ => (P0_0_ k_ ∨ w.heap.size ≤ k_) ∧ some k_ ≠ (v384 : Value).ownBlock ∧ k_ ≠ gb367 ∧ k_ ≠ gb368) (.slice A0_0 l0_0.length c0_0) l0_0) := ⟨h1_⟩
            replace BK367 : Aside0 (w39.heap[gb367]? = some (.cells #[.slice A0_0 l0_0.length c0_0,.int .i64 a0_1] 25 (0,0))) := ⟨h2_⟩
            replace BK368 : Aside0 (w39.heap[gb368]? = some (.cells #[.slice none 0 0,.int .i64 0] 25 (0,0))) := ⟨h3_⟩
            replace HB : Aside0 (Below w.heap.size w w39) := ⟨h4_⟩
            clear h0_ h1_ h2_ h3_ h4_
            have hHeld : w39.cell? ⟨gb367,0,none⟩ = some (.slice A0_0 l0_0.length c0_0) ∧ w39.cell? ⟨gb367,1,none⟩ = some (.int .i64 a0_1) := hS_
            refine norm_ (a':=?_) ?_ ?_
            rotate_left
            ·simp only [putAll,Act.put,setIfInBounds_toArray,set_cons_zero,set_cons_succ]
             rfl
            refine two_ (i:=7) (j:=8) (Ni := some 12) (Nj := some 13) (bm 11 255) (bm 11 383) rfl rfl rfl rfl (two_of HT_.out (by kernel_rfl)) (by decide) (by decide) (fun K hK => ?_) (fun K hK => ?_)
            ·skip
             refine bxs (N:=12) (cs := #[.slice none 0 0,.int .i64 0]) (t:=25) ?_
             intro gb387 hg w40 hbox hb
             replace HO_368000 := Aside0.mk (Kd.V_below (Kd.V_elderB (vA HO_368000.out) gb387 (Nat.le_of_eq hg.symm)) hb)
             replace HO385 := Aside0.mk (Kd.R_below (rA HO385.out) hb)
             have BK387 := Aside0.mk (hbox)
             have GW387 := Aside0.mk ((gw hg : w.heap.size ≤ gb387))
             have GE387 := GW387
             replace HB := bsA hb
             have NB367_387 := Aside0.mk ((nl hg BK367.out))
             have NB387_367 := Aside0.mk ((ng hg BK367.out))
             replace BK367 := bbA BK367 hb
             have NB368_387 := Aside0.mk ((nl hg BK368.out))
             have NB387_368 := Aside0.mk ((ng hg BK368.out))
             replace BK368 := bbA BK368 hb
             clear hb hbox hg
             refine hK.out _ _ ⟨bl BK367 0,bl BK367 1⟩ (fun hHeld => ?_)
             clear hK K
             refine nw 12 ?_
             exact norm_ nm (hJ1_7 (v384,gb387) _ ⟨hHeld,(rA HO385.out),(vM HO_368000.out (fun _ hk => ⟨hk.1.1,⟨hk.1.2.1,⟨hk.1.2.2.1,⟨hk.1.2.2.2,hk.2⟩⟩⟩⟩)),(kA BK367.out),(kA BK368.out),(kA BK387.out),GW387.out,GE387.out,NB367_387.out,NB387_367.out,NB368_387.out,NB387_368.out,bA⟩)
            ·skip
             refine bxs (N:=13) (cs := #[.string (⟨#[]⟩ : ByteArray),.int .i64 0,.string (⟨#[]⟩ : ByteArray)]) (t:=32) ?_
             intro gb388 hg w40 hbox hb
             replace HO_368000 := Aside0.mk (Kd.V_below (Kd.V_elderB (vA HO_368000.out) gb388 (Nat.le_of_eq hg.symm)) hb)
             replace HO385 := Aside0.mk (Kd.R_below (Kd.R_elderB (rA HO385.out) gb388 (Nat.le_of_eq hg.symm)) hb)
             have BK388 := Aside0.mk (hbox)
             have GW388 := Aside0.mk ((gw hg : w.heap.size ≤ gb388))
             have GE388 := GW388
             replace HB := bsA hb
             have NB367_388 := Aside0.mk ((nl hg BK367.out))
             have NB388_367 := Aside0.mk ((ng hg BK367.out))
             replace BK367 := bbA BK367 hb
             have NB368_388 := Aside0.mk ((nl hg BK368.out))
             have NB388_368 := Aside0.mk ((ng hg BK368.out))
             replace BK368 := bbA BK368 hb
             clear hb hbox hg
             refine hK.out _ _ ⟨bl BK367 0,bl BK367 1⟩ (fun hHeld => ?_)
             clear hK K
             refine nw 13 ?_
             exact norm_ nm (hJ1_8 (v384,gb388) _ ⟨hHeld,(rA HO385.out),(vM HO_368000.out (fun _ hk => ⟨hk.1.1,⟨hk.1.2.1,⟨hk.1.2.2.1,⟨hk.1.2.2.2,hk.2⟩⟩⟩⟩)),(kA BK367.out),(kA BK368.out),(kA BK388.out),GW388.out,GE388.out,NB367_388.out,NB388_367.out,NB368_388.out,NB388_368.out,bA⟩)
          ·skip
           rintro ⟨gb387,gb388⟩ w40 ⟨hS_,h0_,h1_,h2_,h3_,h4_,h5_,h6_,h7_,h8_,h9_,h10_,h11_,h12_,h13_,h14_,h15_,h16_,h17_,h18_,h19_⟩
           replace HO_368000 : Aside0 (Kd.V k32 32 w40 w.heap.size (fun k_ => (P0_0_ k_ ∨ w.heap.size ≤ k_) ∧ k_ ≠ gb367 ∧ k_ ≠ gb368 ∧ k_ ≠ gb387 ∧ k_ ≠ gb388) (.slice A0_0 l0_0.length c0_0) l0_0) := ⟨h0_⟩
           replace BK367 : Aside0 (w40.heap[gb367]? = some (.cells #[.slice A0_0 l0_0.length c0_0,.int .i64 a0_1] 25 (0,0))) := ⟨h1_⟩
           replace BK368 : Aside0 (w40.heap[gb368]? = some (.cells #[.slice none 0 0,.int .i64 0] 25 (0,0))) := ⟨h2_⟩
           have BK387 : Aside0 (w40.heap[gb387]? = some (.cells #[.slice none 0 0,.int .i64 0] 25 (0,0))) := ⟨h3_⟩
           have BK388 : Aside0 (w40.heap[gb388]? = some (.cells #[.string (⟨#[]⟩ : ByteArray),.int .i64 0,.string (⟨#[]⟩ : ByteArray)] 32 (0,0))) := ⟨h4_⟩
           have GW387 : Aside0 (w.heap.size ≤ gb387) := ⟨h5_⟩
           have GE387 : Aside0 (w.heap.size ≤ gb387) := ⟨h6_⟩
           have NB367_387 : Aside0 (gb367 ≠ gb387) := ⟨h7_⟩
           have NB387_367 : Aside0 (gb387 ≠ gb367) := ⟨h8_⟩
           have NB368_387 : Aside0 (gb368 ≠ gb387) := ⟨h9_⟩
           have NB387_368 : Aside0 (gb387 ≠ gb368) := ⟨h10_⟩
           have NB388_387 : Aside0 (gb388 ≠ gb387) := ⟨h11_⟩
           have NB387_388 : Aside0 (gb387 ≠ gb388) := ⟨h12_⟩
           have GW388 : Aside0 (w.heap.size ≤ gb388) := ⟨h13_⟩
           have GE388 : Aside0 (w.heap.size ≤ gb388) := ⟨h14_⟩
           have NB367_388 : Aside0 (gb367 ≠ gb388) := ⟨h15_⟩
           have NB388_367 : Aside0 (gb388 ≠ gb367) := ⟨h16_⟩
           have NB368_388 : Aside0 (gb368 ≠ gb388) := ⟨h17_⟩
           have NB388_368 : Aside0 (gb388 ≠ gb368) := ⟨h18_⟩
           replace HB : Aside0 (Below w.heap.size w w40) := ⟨h19_⟩
           clear h0_ h1_ h2_ h3_ h4_ h5_ h6_ h7_ h8_ h9_ h10_ h11_ h12_ h13_ h14_ h15_ h16_ h17_ h18_ h19_
           have hHeld : w40.cell? ⟨gb367,0,none⟩ = some (.slice A0_0 l0_0.length c0_0) ∧ w40.cell? ⟨gb367,1,none⟩ = some (.int .i64 a0_1) := hS_
           refine norm_ (a':=?_) ?_ ?_
           rotate_left
           ·simp only [putAll,Act.put,setIfInBounds_toArray,set_cons_zero,set_cons_succ]
            rfl
           refine one_ (i:=1) (N:=some 47) (bm 11 511) rfl rfl (one_of HT_.out (by kernel_rfl)) (by decide) (fun K hK => ?_)
           refine goes_ Try.func36 (by kernel_rfl) rfl #[.agg #[.slice A0_0 l0_0.length c0_0,.int .i64 a0_1]] (by rfl) rfl rfl mA ?_
           with_reducible refine (impl_Store_copied.calls _ _ l0_0 a0_1 t383 t386 _ ?side1 ?side2 A32.out).mono ?_
           (case side1 => repeat (first | exact (Kd.V_reads' HO_368000.out).2.2 | (with_reducible refine Kd.C_alloc ?_ _) | (with_reducible refine Kd.C_drewN ?_ _) | (with_reducible refine Kd.C_drew ?_)))
           (case side2 => exact (Kd.V_reads' HO_368000.out).2.1)
           rintro e w41 ⟨v384,rfl,ho0,hb⟩
           refine ⟨_,rfl,?_⟩
           replace HO_368000 := Aside0.mk (Kd.V_elder' (vA HO_368000.out) (Kd.R_base ho0) hb)
           have HO385 := Aside0.mk (Kd.R_lower (Kd.R_newB (Kd.R_newM (M:=fun k_ => (w.heap.size ≤ k_)) ho0 (below_size bA) (fun k_ h_ => h_)) (g:=gb388) (o:=.cells #[.string (⟨#[]⟩ : ByteArray),.int .i64 0,.string (⟨#[]⟩ : ByteArray)] 32 (0,0)) (kA BK388.out)) (below_size bA))
           replace BK367 := bbA BK367 hb
           replace BK368 := bbA BK368 hb
           replace BK387 := bbA BK387 hb
           replace BK388 := bbA BK388 hb
           replace HB := bsA hb
           clear hb
           (try clear ho0)
           refine hK.out _ _ ⟨bl BK367 0,bl BK367 1⟩ (fun hHeld => ?_)
           clear hK K
           refine nw 47 ?_
           exact norm_ nm (hJ1_7_8 (v384,gb387,gb388) _ ⟨hHeld,(rM HO385.out (fun _ hk => ⟨hk.1.1,hk.2⟩)),(vM HO_368000.out (fun _ hk => ⟨hk.1.1,⟨hk.2,⟨hk.1.2.1,⟨hk.1.2.2.1,⟨hk.1.2.2.2.1,hk.1.2.2.2.2⟩⟩⟩⟩⟩)),(kA BK367.out),(kA BK368.out),(kA BK387.out),(kA BK388.out),GW387.out,GE387.out,NB367_387.out,NB387_367.out,NB368_387.out,NB387_368.out,NB388_387.out,NB387_388.out,GW388.out,GE388.out,NB367_388.out,NB388_367.out,NB368_388.out,NB388_368.out,bA⟩)
         ·skip
          rintro ⟨v384,gb388⟩ w40 ⟨hS_,h0_,h1_,h2_,h3_,h4_,h5_,h6_,h7_,h8_,h9_,h10_,h11_⟩
          have HO385 : Aside0 (Kd.R k32 32 w40 w.heap.size (fun k_ => (w.heap.size ≤ k_) ∧ k_ ≠ gb388) v384 t383) := ⟨h0_⟩
          replace HO_368000 : Aside0 (Kd.V k32 32 w40 w.heap.size (fun k_ => (P0_0_ k_ ∨ w.heap.size ≤ k_) ∧ some k_ ≠ (v384 : Value).ownBlock ∧ k_ ≠ gb367 ∧ k_ ≠ gb368 ∧ k_ ≠ gb388) (.slice A0_0 l0_0.length c0_0) l0_0) := ⟨h1_⟩
          replace BK367 : Aside0 (w40.heap[gb367]? = some (.cells #[.slice A0_0 l0_0.length c0_0,.int .i64 a0_1] 25 (0,0))) := ⟨h2_⟩
          replace BK368 : Aside0 (w40.heap[gb368]? = some (.cells #[.slice none 0 0,.int .i64 0] 25 (0,0))) := ⟨h3_⟩
          have BK388 : Aside0 (w40.heap[gb388]? = some (.cells #[.string (⟨#[]⟩ : ByteArray),.int .i64 0,.string (⟨#[]⟩ : ByteArray)] 32 (0,0))) := ⟨h4_⟩
          have GW388 : Aside0 (w.heap.size ≤ gb388) := ⟨h5_⟩
          have GE388 : Aside0 (w.heap.size ≤ gb388) := ⟨h6_⟩
          have NB367_388 : Aside0 (gb367 ≠ gb388) := ⟨h7_⟩
          have NB388_367 : Aside0 (gb388 ≠ gb367) := ⟨h8_⟩
          have NB368_388 : Aside0 (gb368 ≠ gb388) := ⟨h9_⟩
          have NB388_368 : Aside0 (gb388 ≠ gb368) := ⟨h10_⟩
          replace HB : Aside0 (Below w.heap.size w w40) := ⟨h11_⟩
          clear h0_ h1_ h2_ h3_ h4_ h5_ h6_ h7_ h8_ h9_ h10_ h11_
          have hHeld : w40.cell? ⟨gb367,0,none⟩ = some (.slice A0_0 l0_0.length c0_0) ∧ w40.cell? ⟨gb367,1,none⟩ = some (.int .i64 a0_1) := hS_
          refine norm_ (a':=?_) ?_ ?_
          rotate_left
          ·simp only [putAll,Act.put,setIfInBounds_toArray,set_cons_zero,set_cons_succ]
           rfl
          refine one_ (i:=7) (N:=some 12) (bm 11 511) rfl rfl (one_of HT_.out (by kernel_rfl)) (by decide) (fun K hK => ?_)
          refine bxs (N:=12) (cs := #[.slice none 0 0,.int .i64 0]) (t:=25) ?_
          intro gb387 hg w41 hbox hb
          replace HO_368000 := Aside0.mk (Kd.V_below (Kd.V_elderB (vA HO_368000.out) gb387 (Nat.le_of_eq hg.symm)) hb)
          replace HO385 := Aside0.mk (Kd.R_below (rA HO385.out) hb)
          have BK387 := Aside0.mk (hbox)
          have GW387 := Aside0.mk ((gw hg : w.heap.size ≤ gb387))
          have GE387 := GW387
          replace HB := bsA hb
          have NB367_387 := Aside0.mk ((nl hg BK367.out))
          have NB387_367 := Aside0.mk ((ng hg BK367.out))
          replace BK367 := bbA BK367 hb
          have NB368_387 := Aside0.mk ((nl hg BK368.out))
          have NB387_368 := Aside0.mk ((ng hg BK368.out))
          replace BK368 := bbA BK368 hb
          have NB388_387 := Aside0.mk ((nl hg BK388.out))
          have NB387_388 := Aside0.mk ((ng hg BK388.out))
          replace BK388 := bbA BK388 hb
          clear hb hbox hg
          refine hK.out _ _ ⟨bl BK367 0,bl BK367 1⟩ (fun hHeld => ?_)
          clear hK K
          refine nw 12 ?_
          exact norm_ nm (hJ1_7_8 (v384,gb387,gb388) _ ⟨hHeld,(rA HO385.out),(vM HO_368000.out (fun _ hk => ⟨hk.1.1,⟨hk.1.2.1,⟨hk.1.2.2.1,⟨hk.1.2.2.2.1,⟨hk.2,hk.1.2.2.2.2⟩⟩⟩⟩⟩)),(kA BK367.out),(kA BK368.out),(kA BK387.out),(kA BK388.out),GW387.out,GE387.out,NB367_387.out,NB387_367.out,NB368_387.out,NB387_368.out,NB388_387.out,NB387_388.out,GW388.out,GE388.out,NB367_388.out,NB388_367.out,NB368_388.out,NB388_368.out,bA⟩)
        ·skip
         rintro ⟨v384,gb387⟩ w40 ⟨hS_,h0_,h1_,h2_,h3_,h4_,h5_,h6_,h7_,h8_,h9_,h10_,h11_⟩
         have HO385 : Aside0 (Kd.R k32 32 w40 w.heap.size (fun k_ => (w.heap.size ≤ k_)) v384 t383) := ⟨h0_⟩
         replace HO_368000 : Aside0 (Kd.V k32 32 w40 w.heap.size (fun k_ => (P0_0_ k_ ∨ w.heap.size ≤ k_) ∧ some k_ ≠ (v384 : Value).ownBlock ∧ k_ ≠ gb367 ∧ k_ ≠ gb368 ∧ k_ ≠ gb387) (.slice A0_0 l0_0.length c0_0) l0_0) := ⟨h1_⟩
         replace BK367 : Aside0 (w40.heap[gb367]? = some (.cells #[.slice A0_0 l0_0.length c0_0,.int .i64 a0_1] 25 (0,0))) := ⟨h2_⟩
         replace BK368 : Aside0 (w40.heap[gb368]? = some (.cells #[.slice none 0 0,.int .i64 0] 25 (0,0))) := ⟨h3_⟩
         have BK387 : Aside0 (w40.heap[gb387]? = some (.cells #[.slice none 0 0,.int .i64 0] 25 (0,0))) := ⟨h4_⟩
         have GW387 : Aside0 (w.heap.size ≤ gb387) := ⟨h5_⟩
         have GE387 : Aside0 (w.heap.size ≤ gb387) := ⟨h6_⟩
         have NB367_387 : Aside0 (gb367 ≠ gb387) := ⟨h7_⟩
         have NB387_367 : Aside0 (gb387 ≠ gb367) := ⟨h8_⟩
         have NB368_387 : Aside0 (gb368 ≠ gb387) := ⟨h9_⟩
         have NB387_368 : Aside0 (gb387 ≠ gb368) := ⟨h10_⟩
         replace HB : Aside0 (Below w.heap.size w w40) := ⟨h11_⟩
         clear h0_ h1_ h2_ h3_ h4_ h5_ h6_ h7_ h8_ h9_ h10_ h11_
         have hHeld : w40.cell? ⟨gb367,0,none⟩ = some (.slice A0_0 l0_0.length c0_0) ∧ w40.cell? ⟨gb367,1,none⟩ = some (.int .i64 a0_1) := hS_
         refine norm_ (a':=?_) ?_ ?_
         rotate_left
         ·simp only [putAll,Act.put,setIfInBounds_toArray,set_cons_zero,set_cons_succ]
          rfl
         refine one_ (i:=8) (N:=some 13) (bm 11 511) rfl rfl (one_of HT_.out (by kernel_rfl)) (by decide) (fun K hK => ?_)
         refine bxs (N:=13) (cs := #[.string (⟨#[]⟩ : ByteArray),.int .i64 0,.string (⟨#[]⟩ : ByteArray)]) (t:=32) ?_
         intro gb388 hg w41 hbox hb
         replace HO_368000 := Aside0.mk (Kd.V_below (Kd.V_elderB (vA HO_368000.out) gb388 (Nat.le_of_eq hg.symm)) hb)
         replace HO385 := Aside0.mk (Kd.R_below (Kd.R_elderB (rA HO385.out) gb388 (Nat.le_of_eq hg.symm)) hb)
         have BK388 := Aside0.mk (hbox)
         have GW388 := Aside0.mk ((gw hg : w.heap.size ≤ gb388))
         have GE388 := GW388
         replace HB := bsA hb
         have NB367_388 := Aside0.mk ((nl hg BK367.out))
         have NB388_367 := Aside0.mk ((ng hg BK367.out))
         replace BK367 := bbA BK367 hb
         have NB368_388 := Aside0.mk ((nl hg BK368.out))
         have NB388_368 := Aside0.mk ((ng hg BK368.out))
         replace BK368 := bbA BK368 hb
         have NB387_388 := Aside0.mk ((nl hg BK387.out))
         have NB388_387 := Aside0.mk ((ng hg BK387.out))
         replace BK387 := bbA BK387 hb
         clear hb hbox hg
         refine hK.out _ _ ⟨bl BK367 0,bl BK367 1⟩ (fun hHeld => ?_)
         clear hK K
         refine nw 13 ?_
         exact norm_ nm (hJ1_7_8 (v384,gb387,gb388) _ ⟨hHeld,(rA HO385.out),(vM HO_368000.out (fun _ hk => ⟨hk.1.1,⟨hk.1.2.1,⟨hk.1.2.2.1,⟨hk.1.2.2.2.1,⟨hk.1.2.2.2.2,hk.2⟩⟩⟩⟩⟩)),(kA BK367.out),(kA BK368.out),(kA BK387.out),(kA BK388.out),GW387.out,GE387.out,NB367_387.out,NB387_367.out,NB368_387.out,NB387_368.out,NB388_387.out,NB387_388.out,GW388.out,GE388.out,NB367_388.out,NB388_367.out,NB368_388.out,NB388_368.out,bA⟩)
       rintro ⟨v384,gb387,gb388⟩ w41 ⟨hS_,h0_,h1_,h2_,h3_,h4_,h5_,h6_,h7_,h8_,h9_,h10_,h11_,h12_,h13_,h14_,h15_,h16_,h17_,h18_,h19_,h20_⟩
       have HO385 : Aside0 (Kd.R k32 32 w41 w.heap.size (fun k_ => (w.heap.size ≤ k_) ∧ k_ ≠ gb388) v384 t383) := ⟨h0_⟩
       replace HO_368000 : Aside0 (Kd.V k32 32 w41 w.heap.size (fun k_ => (P0_0_ k_ ∨ w.heap.size ≤ k_) ∧ some k_ ≠ (v384 : Value).ownBlock ∧ k_ ≠ gb367 ∧ k_ ≠ gb368 ∧ k_ ≠ gb387 ∧ k_ ≠ gb388) (.slice A0_0 l0_0.length c0_0) l0_0) := ⟨h1_⟩
       replace BK367 : Aside0 (w41.heap[gb367]? = some (.cells #[.slice A0_0 l0_0.length c0_0,.int .i64 a0_1] 25 (0,0))) := ⟨h2_⟩
       replace BK368 : Aside0 (w41.heap[gb368]? = some (.cells #[.slice none 0 0,.int .i64 0] 25 (0,0))) := ⟨h3_⟩
       have BK387 : Aside0 (w41.heap[gb387]? = some (.cells #[.slice none 0 0,.int .i64 0] 25 (0,0))) := ⟨h4_⟩
       have BK388 : Aside0 (w41.heap[gb388]? = some (.cells #[.string (⟨#[]⟩ : ByteArray),.int .i64 0,.string (⟨#[]⟩ : ByteArray)] 32 (0,0))) := ⟨h5_⟩
       have GW387 : Aside0 (w.heap.size ≤ gb387) := ⟨h6_⟩
       have GE387 : Aside0 (w.heap.size ≤ gb387) := ⟨h7_⟩
       have NB367_387 : Aside0 (gb367 ≠ gb387) := ⟨h8_⟩
       have NB387_367 : Aside0 (gb387 ≠ gb367) := ⟨h9_⟩
       have NB368_387 : Aside0 (gb368 ≠ gb387) := ⟨h10_⟩
       have NB387_368 : Aside0 (gb387 ≠ gb368) := ⟨h11_⟩
       have NB388_387 : Aside0 (gb388 ≠ gb387) := ⟨h12_⟩
       have NB387_388 : Aside0 (gb387 ≠ gb388) := ⟨h13_⟩
       have GW388 : Aside0 (w.heap.size ≤ gb388) := ⟨h14_⟩
       have GE388 : Aside0 (w.heap.size ≤ gb388) := ⟨h15_⟩
       have NB367_388 : Aside0 (gb367 ≠ gb388) := ⟨h16_⟩
       have NB388_367 : Aside0 (gb388 ≠ gb367) := ⟨h17_⟩
       have NB368_388 : Aside0 (gb368 ≠ gb388) := ⟨h18_⟩
       have NB388_368 : Aside0 (gb388 ≠ gb368) := ⟨h19_⟩
       replace HB : Aside0 (Below w.heap.size w w41) := ⟨h20_⟩
       clear h0_ h1_ h2_ h3_ h4_ h5_ h6_ h7_ h8_ h9_ h10_ h11_ h12_ h13_ h14_ h15_ h16_ h17_ h18_ h19_ h20_
       have hHeld : w41.cell? ⟨gb367,0,none⟩ = some (.slice A0_0 l0_0.length c0_0) ∧ w41.cell? ⟨gb367,1,none⟩ = some (.int .i64 a0_1) := hS_
       obtain ⟨Ao42,co42,eo42⟩ := Kd.R_slice HO385.out
       (first | subst eo42 | (injection eo42 with f1_ f2_ f3_; have f4_ := f1_.symm; have f5_ := f3_.symm; clear f1_ f2_ f3_; subst f4_; subst f5_))
       refine norm_ (a':=?_) ?_ ?_
       rotate_left
       ·simp only [putAll,Act.put,setIfInBounds_toArray,set_cons_zero,set_cons_succ]
        rfl
       refine one_ (i:=9) (N:=none) (bm 11 1023) rfl rfl (one_of HT_.out (by kernel_rfl)) (by decide) (fun K hK => ?_)
       have hs43 : w41.cell? ⟨gb387,0,none⟩ = some (.slice none 0 0) := bl BK387 0
       have hfs43 := blk_frozen BK387.out 0
       have hns43_0 := NB367_387.out
       have hns43_1 := NB368_387.out
       have hns43_3 := NB388_387.out
       have hms43_0 := NB387_367.out
       have hms43_1 := NB387_368.out
       have hms43_3 := NB387_388.out
       have hs44 : w41.cell? ⟨gb387,1,none⟩ = some (.int .i64 0) := bl BK387 1
       have hfs44 := blk_frozen BK387.out 1
       have hns44_0 := NB367_387.out
       have hns44_1 := NB368_387.out
       have hns44_3 := NB388_387.out
       have hms44_0 := NB387_367.out
       have hms44_1 := NB387_368.out
       have hms44_3 := NB387_388.out
       refine skip_ (w1 := ?_) (by rfl) rfl ?_ ?_
       rotate_left
       ·go_simp
        rfl
       refine hK.out _ _ ⟨((cell_far (p:=⟨gb387,_,none⟩) NB367_387.out _).trans (((cell_far (p:=⟨gb387,_,none⟩) NB367_387.out _).trans (hHeld.1)))),((cell_far (p:=⟨gb387,_,none⟩) NB367_387.out _).trans (((cell_far (p:=⟨gb387,_,none⟩) NB367_387.out _).trans (hHeld.2))))⟩ (fun hHeld => ?_)
       clear hK K
       refine one_ (i:=10) (N:=none) (bm 11 2047) rfl rfl (one_of HT_.out (by kernel_rfl)) (by decide) (fun K hK => ?_)
       have hs45 : w41.cell? ⟨gb388,0,none⟩ = some (.string (⟨#[]⟩ : ByteArray)) := bl BK388 0
       have hfs45 := blk_frozen BK388.out 0
       have hns45_0 := NB367_388.out
       have hns45_1 := NB368_388.out
       have hns45_2 := NB387_388.out
       have hms45_0 := NB388_367.out
       have hms45_1 := NB388_368.out
       have hms45_2 := NB388_387.out
       have hs46 : w41.cell? ⟨gb388,1,none⟩ = some (.int .i64 0) := bl BK388 1
       have hfs46 := blk_frozen BK388.out 1
       have hns46_0 := NB367_388.out
       have hns46_1 := NB368_388.out
       have hns46_2 := NB387_388.out
       have hms46_0 := NB388_367.out
       have hms46_1 := NB388_368.out
       have hms46_2 := NB388_387.out
       have hs47 : w41.cell? ⟨gb388,2,none⟩ = some (.string (⟨#[]⟩ : ByteArray)) := bl BK388 2
       have hfs47 := blk_frozen BK388.out 2
       have hns47_0 := NB367_388.out
       have hns47_1 := NB368_388.out
       have hns47_2 := NB387_388.out
       have hms47_0 := NB388_367.out
       have hms47_1 := NB388_368.out
       have hms47_2 := NB388_387.out
       refine skip_ (w1 := ?_) (by rfl) rfl ?_ ?_
       rotate_left
       ·go_simp
        rfl
       refine hK.out _ _ ⟨((cell_far (p:=⟨gb388,_,none⟩) NB367_388.out _).trans (((cell_far (p:=⟨gb388,_,none⟩) NB367_388.out _).trans (((cell_far (p:=⟨gb388,_,none⟩) NB367_388.out _).trans (hHeld.1)))))),((cell_far (p:=⟨gb388,_,none⟩) NB367_388.out _).trans (((cell_far (p:=⟨gb388,_,none⟩) NB367_388.out _).trans (((cell_far (p:=⟨gb388,_,none⟩) NB367_388.out _).trans (hHeld.2))))))⟩ (fun hHeld => ?_)
       clear hK K
       refine done_ (done_of HT_.out (by kernel_rfl)) ?_
       have n0_ : Aside0 (Kd.V k32 32 (((((w41.setCell ⟨gb387,0,none⟩ (.slice Ao42 t383.length co42)).setCell ⟨gb387,1,none⟩ (.int .i64 t386)).setCell ⟨gb388,0,none⟩ (.string a1)).setCell ⟨gb388,1,none⟩ (.int .i64 a0_1)).setCell ⟨gb388,2,none⟩ (.string a2)) w.heap.size (fun k_ => (P0_0_ k_ ∨ w.heap.size ≤ k_) ∧ some k_ ≠ (.slice Ao42 t383.length co42 : Value).ownBlock ∧ k_ ≠ gb367 ∧ k_ ≠ gb368 ∧ k_ ≠ gb387 ∧ k_ ≠ gb388) (.slice A0_0 l0_0.length c0_0) l0_0) := ⟨by (with_reducible repeat (first | apply Kd.V_alloc | apply Kd.V_drewN | apply Kd.V_drew)); exact Kd.V_mono (Kd.V_far (p:=⟨gb388,2,none⟩) (Kd.V_far (p:=⟨gb388,1,none⟩) (Kd.V_far (p:=⟨gb388,0,none⟩) (Kd.V_far (p:=⟨gb387,1,none⟩) (Kd.V_far (p:=⟨gb387,0,none⟩) (Kd.V_mono (Kd.V_mono HO_368000.out (fun k_ hk => (⟨hk,hk.2.2.2.2.1⟩ : _ ∧ k_ ≠ gb387))) (fun k_ hk => (⟨hk,hk.1.2.2.2.2.2⟩ : _ ∧ k_ ≠ gb388))) (fun _ hk => hk.1.2) (.slice Ao42 t383.length co42)) (fun _ hk => hk.1.2) (.int .i64 t386)) (fun _ hk => hk.2) (.string a1)) (fun _ hk => hk.2) (.int .i64 a0_1)) (fun _ hk => hk.2) (.string a2)) (fun _ hk => ⟨hk.1.1.1,⟨hk.1.1.2.1,⟨hk.1.1.2.2.1,⟨hk.1.1.2.2.2.1,⟨hk.1.1.2.2.2.2.1,hk.1.1.2.2.2.2.2⟩⟩⟩⟩⟩)⟩
       have n1_ : Aside0 (Kd.R k32 32 (((((w41.setCell ⟨gb387,0,none⟩ (.slice Ao42 t383.length co42)).setCell ⟨gb387,1,none⟩ (.int .i64 t386)).setCell ⟨gb388,0,none⟩ (.string a1)).setCell ⟨gb388,1,none⟩ (.int .i64 a0_1)).setCell ⟨gb388,2,none⟩ (.string a2)) w.heap.size (fun k_ => (w.heap.size ≤ k_) ∧ k_ ≠ gb388) (.slice Ao42 t383.length co42) t383) := ⟨by (with_reducible repeat (first | apply Kd.R_alloc | apply Kd.R_drewN | apply Kd.R_drew)); exact Kd.R_mono (Kd.R_far (p:=⟨gb388,2,none⟩) (Kd.R_far (p:=⟨gb388,1,none⟩) (Kd.R_far (p:=⟨gb388,0,none⟩) (Kd.R_far (p:=⟨gb387,1,none⟩) (Kd.R_far (p:=⟨gb387,0,none⟩) (Kd.R_mono (Kd.R_types HO385.out BK387.out (by decide)) (fun k_ hk => (⟨hk,hk.1.2⟩ : _ ∧ k_ ≠ gb388))) (fun _ hk => hk.1.2) (.slice Ao42 t383.length co42)) (fun _ hk => hk.1.2) (.int .i64 t386)) (fun _ hk => hk.2) (.string a1)) (fun _ hk => hk.2) (.int .i64 a0_1)) (fun _ hk => hk.2) (.string a2)) (fun _ hk => ⟨hk.1.1.1,hk.1.1.2⟩)⟩
       have n2_ : Aside0 ((((((w41.setCell ⟨gb387,0,none⟩ (.slice Ao42 t383.length co42)).setCell ⟨gb387,1,none⟩ (.int .i64 t386)).setCell ⟨gb388,0,none⟩ (.string a1)).setCell ⟨gb388,1,none⟩ (.int .i64 a0_1)).setCell ⟨gb388,2,none⟩ (.string a2)).heap[gb367]? = some (.cells #[.slice A0_0 l0_0.length c0_0,.int .i64 a0_1] 25 (0,0))) := ⟨kF BK367.out⟩
       have n3_ : Aside0 ((((((w41.setCell ⟨gb387,0,none⟩ (.slice Ao42 t383.length co42)).setCell ⟨gb387,1,none⟩ (.int .i64 t386)).setCell ⟨gb388,0,none⟩ (.string a1)).setCell ⟨gb388,1,none⟩ (.int .i64 a0_1)).setCell ⟨gb388,2,none⟩ (.string a2)).heap[gb368]? = some (.cells #[.slice none 0 0,.int .i64 0] 25 (0,0))) := ⟨kF BK368.out⟩
       have n4_ : Aside0 ((((((w41.setCell ⟨gb387,0,none⟩ (.slice Ao42 t383.length co42)).setCell ⟨gb387,1,none⟩ (.int .i64 t386)).setCell ⟨gb388,0,none⟩ (.string a1)).setCell ⟨gb388,1,none⟩ (.int .i64 a0_1)).setCell ⟨gb388,2,none⟩ (.string a2)).heap[gb387]? = some (.cells #[.slice Ao42 t383.length co42,.int .i64 t386] 25 (0,0))) := ⟨by (with_reducible repeat (first | refine blk_drewN ?_ _ | refine blk_drew ?_ | refine blk_alloc ?_ _)); refine blk_far ?_ NB387_388.out _; (with_reducible repeat (first | refine blk_drewN ?_ _ | refine blk_drew ?_ | refine blk_alloc ?_ _)); refine blk_far ?_ NB387_388.out _; (with_reducible repeat (first | refine blk_drewN ?_ _ | refine blk_drew ?_ | refine blk_alloc ?_ _)); refine blk_far ?_ NB387_388.out _; (with_reducible repeat (first | refine blk_drewN ?_ _ | refine blk_drew ?_ | refine blk_alloc ?_ _)); apply blkp2; (with_reducible repeat (first | refine blk_drewN ?_ _ | refine blk_drew ?_ | refine blk_alloc ?_ _)); exact BK387.out⟩
       have n5_ : Aside0 ((((((w41.setCell ⟨gb387,0,none⟩ (.slice Ao42 t383.length co42)).setCell ⟨gb387,1,none⟩ (.int .i64 t386)).setCell ⟨gb388,0,none⟩ (.string a1)).setCell ⟨gb388,1,none⟩ (.int .i64 a0_1)).setCell ⟨gb388,2,none⟩ (.string a2)).heap[gb388]? = some (.cells #[.string a1,.int .i64 a0_1,.string a2] 32 (0,0))) := ⟨by (with_reducible repeat (first | refine blk_drewN ?_ _ | refine blk_drew ?_ | refine blk_alloc ?_ _)); refine blk_put (cs := #[.string a1,.int .i64 a0_1,.string (⟨#[]⟩ : ByteArray)]) ?_ 2 _ rfl; (with_reducible repeat (first | refine blk_drewN ?_ _ | refine blk_drew ?_ | refine blk_alloc ?_ _)); refine blk_put (cs := #[.string a1,.int .i64 0,.string (⟨#[]⟩ : ByteArray)]) ?_ 1 _ rfl; (with_reducible repeat (first | refine blk_drewN ?_ _ | refine blk_drew ?_ | refine blk_alloc ?_ _)); refine blk_put (cs := #[.string (⟨#[]⟩ : ByteArray),.int .i64 0,.string (⟨#[]⟩ : ByteArray)]) ?_ 0 _ rfl; (with_reducible repeat (first | refine blk_drewN ?_ _ | refine blk_drew ?_ | refine blk_alloc ?_ _)); refine blk_far ?_ NB388_387.out _; (with_reducible repeat (first | refine blk_drewN ?_ _ | refine blk_drew ?_ | refine blk_alloc ?_ _)); refine blk_far ?_ NB388_387.out _; (with_reducible repeat (first | refine blk_drewN ?_ _ | refine blk_drew ?_ | refine blk_alloc ?_ _)); exact BK388.out⟩
       have n6_ : Aside0 (Below w.heap.size w (((((w41.setCell ⟨gb387,0,none⟩ (.slice Ao42 t383.length co42)).setCell ⟨gb387,1,none⟩ (.int .i64 t386)).setCell ⟨gb388,0,none⟩ (.string a1)).setCell ⟨gb388,1,none⟩ (.int .i64 a0_1)).setCell ⟨gb388,2,none⟩ (.string a2))) := ⟨bA⟩
       (try clear HO_368000)
       (try clear HO385)
       (try clear BK367)
       (try clear BK368)
       (try clear BK387)
       (try clear BK388)
       (try clear HB)
       generalize (((((w41.setCell ⟨gb387,0,none⟩ (.slice Ao42 t383.length co42)).setCell ⟨gb387,1,none⟩ (.int .i64 t386)).setCell ⟨gb388,0,none⟩ (.string a1)).setCell ⟨gb388,1,none⟩ (.int .i64 a0_1)).setCell ⟨gb388,2,none⟩ (.string a2)) = w48 at n0_ n1_ n2_ n3_ n4_ n5_ n6_ ⊢
       have HO_368000 := n0_
       have HO385 := n1_
       have BK367 := n2_
       have BK368 := n3_
       have BK387 := n4_
       have BK388 := n5_
       have HB := n6_
       clear n0_ n1_ n2_ n3_ n4_ n5_ n6_
       have hnb49 := NB387_367.out
       have hnc49 := NB367_387.out
       have hnb50 := NB387_368.out
       have hnc50 := NB368_387.out
       have hnb51 := NB387_388.out
       have hnc51 := NB388_387.out
       obtain ⟨hcz52_0,hcz52_1⟩ := cl2 BK387.out
       obtain ⟨hfz52_0,hfz52_1⟩ := fz2 BK387.out
       have hnb53 := NB388_367.out
       have hnc53 := NB367_388.out
       have hnb54 := NB388_368.out
       have hnc54 := NB368_388.out
       obtain ⟨hcz55_0,hcz55_1,hcz55_2⟩ := cl3 BK388.out
       obtain ⟨hfz55_0,hfz55_1,hfz55_2⟩ := fz3 BK388.out
       have p36 : 0 ≤ (t369 : Int) := od
       have q36 : (t369 : Int) < ((t383.length : Int) : Int) := od
       obtain ⟨go36,co36,eo36,gb36,gl36,cl36,HG36⟩ := Kd.R_form HO385.out (by omega)
       (first | cases eo36 | (injection eo36 with ea_ en_ ec_; (first | subst ea_ | (injection ea_ with ea_; subst ea_)); subst ec_; clear en_))
       have GB36 := Aside0.mk gb36
       have GG36 := Aside0.mk HG36
       clear gb36 gl36 HG36
       obtain ⟨ce36,hcl36,hM36,hcc36,hfr36⟩ := Kd.R_elem HO385.out z32 (t369 : Int) p36 q36
       obtain rfl := k32_openM hM36
       have hx36_0 : w48.cell? ⟨go36,(t369 : Int).toNat * 3,none⟩ = some (.string ((rd_T32 t383 t369).f0)) := hcc36 0 _ rfl
       have hx36_1 : w48.cell? ⟨go36,(t369 : Int).toNat * 3 + 1,none⟩ = some (.int .i64 ((rd_T32 t383 t369).f1)) := hcc36 1 _ rfl
       have hx36_2 : w48.cell? ⟨go36,(t369 : Int).toNat * 3 + 2,none⟩ = some (.string ((rd_T32 t383 t369).f2)) := hcc36 2 _ rfl
       have hf36_0 : w48.frozen? ⟨go36,(t369 : Int).toNat * 3,none⟩ = false := hfr36 0
       have hf36_1 : w48.frozen? ⟨go36,(t369 : Int).toNat * 3 + 1,none⟩ = false := hfr36 1
       have hf36_2 : w48.frozen? ⟨go36,(t369 : Int).toNat * 3 + 2,none⟩ = false := hfr36 2
       clear hcl36 hcc36 hfr36 hM36
       replace p36 := eq_true p36
       replace q36 := eq_true q36
       have HX56 := Aside0.mk (show Kd.R k32 32 w48 w.heap.size (fun k_ => (w.heap.size ≤ k_) ∧ k_ ≠ gb388) (.slice (some ⟨go36,0,none⟩) t383.length co42) t383 from (rA HO385.out))
       obtain ⟨ce56,hcl56,hM56,hcc56,hfr56⟩ := Kd.R_elem HX56.out z32 (t369 : Int) (od) (by have h_ : (t369 : Int) < ((t383.length : Int) : Int) := od; first | exact h_ | (have e_ := (Kd.R_reads' HO385.out).1; omega) | simpa using h_)
       obtain rfl := k32_openM hM56
       have HP56 := Kd.R_seg HX56.out (t369 : Int) (od) (by have h_ : (t369 : Int) < ((t383.length : Int) : Int) := od; first | exact h_ | (have e_ := (Kd.R_reads' HO385.out).1; omega) | simpa using h_) (seg := [.string a1,.int .i64 a0_1,.string a2]) (j:=0) hcl56 hcc56 (show 3 ≤ 3 from by decide) (x':=(⟨a1,a0_1,a2⟩ : S32)) (k32_mkM _ _ _ (⟨a1,a0_1,a2⟩ : S32) ) (fun _ hk => hk)
       have hx56_0 := hcc56 0 _ rfl
       (try simp only [show (k32).sz = 3 from rfl,Nat.mul_one,Nat.add_zero] at hx56_0)
       have hf56_0 := hfr56 0
       (try simp only [show (k32).sz = 3 from rfl,Nat.mul_one,Nat.add_zero] at hf56_0)
       have hx56_1 := hcc56 1 _ rfl
       (try simp only [show (k32).sz = 3 from rfl,Nat.mul_one,Nat.add_zero] at hx56_1)
       have hf56_1 := hfr56 1
       (try simp only [show (k32).sz = 3 from rfl,Nat.mul_one,Nat.add_zero] at hf56_1)
       have hx56_2 := hcc56 2 _ rfl
       (try simp only [show (k32).sz = 3 from rfl,Nat.mul_one,Nat.add_zero] at hx56_2)
       have hf56_2 := hfr56 2
       (try simp only [show (k32).sz = 3 from rfl,Nat.mul_one,Nat.add_zero] at hf56_2)
       clear hcl56 hcc56 hfr56 hM56
       try go_wp2_with (first | ((with_reducible refine gate_store (t:=32) (p:=58) rfl ?_); refine store_event (t:=32) (p:=58) (v:=?vo_w57) (w1 := (((w48.setCell ⟨go36,(t369 : Int).toNat * 3,none⟩ (.string a1)).setCell ⟨go36,(t369 : Int).toNat * 3 + 1,none⟩ (.int .i64 a0_1)).setCell ⟨go36,(t369 : Int).toNat * 3 + 2,none⟩ (.string a2))) ?hg ?ho ?hn ?hr ?_; (case ho => rfl); (case hg => rfl); (case hn => rfl); (case hr => first | (go_simp; done) | (go_simp; rfl)); intro w57 hw; have hg : w48.grownBy w57 (some go36) := (by rw [hw]; exact HP56.2); have hp_ : Kd.R k32 32 w57 w.heap.size (fun k_ => (w.heap.size ≤ k_) ∧ k_ ≠ gb388) (.slice (some ⟨go36,0,none⟩) t383.length co42) y389 := (by rw [hw,Ny389.out]; exact HP56.1); clear HP56; replace HO_368000 := Aside0.mk (Kd.V_afterv (v:=(.slice (some ⟨go36,0,none⟩) t383.length co42)) (v1 := (.slice (some ⟨go36,0,none⟩) t383.length co42)) (ok := (fun k_ => (P0_0_ k_ ∨ w.heap.size ≤ k_) ∧ k_ ≠ gb367 ∧ k_ ≠ gb368 ∧ k_ ≠ gb387 ∧ k_ ≠ gb388)) (vM HO_368000.out (fun _ hk => ⟨⟨hk.1,⟨hk.2.2.1,⟨hk.2.2.2.1,⟨hk.2.2.2.2.1,hk.2.2.2.2.2⟩⟩⟩⟩,hk.2.1⟩)) hg (.inl rfl)); replace BK367 := Aside0.mk (bg BK367.out hg (Kd.R_ne HO385.out BK367.out (by decide))); replace BK368 := Aside0.mk (bg BK368.out hg (Kd.R_ne HO385.out BK368.out (by decide))); replace BK387 := Aside0.mk (bg BK387.out hg (Kd.R_ne HO385.out BK387.out (by decide))); replace BK388 := Aside0.mk (bg BK388.out hg (Kd.R_away HO385.out (fun _ hk => hk.2))); replace HO385 := Aside0.mk (hp_); replace HB := Aside0.mk ((by rw [hw]; exact below_set (below_set (below_set (HB.out) GB36.out) GB36.out) GB36.out : Below w.heap.size w w57)); clear hg hw hp_; obtain ⟨hcz58_0,hcz58_1⟩ := cl2 BK387.out; obtain ⟨hfz58_0,hfz58_1⟩ := fz2 BK387.out))
       have n0_ : Aside0 (Kd.V k32 32 (w57.setCell ⟨gb387,1,none⟩ (.int .i64 (wrap64 (t386 + 1)))) w.heap.size (fun k_ => (P0_0_ k_ ∨ w.heap.size ≤ k_) ∧ some k_ ≠ (.slice (some ⟨go36,0,none⟩) t383.length co42 : Value).ownBlock ∧ k_ ≠ gb367 ∧ k_ ≠ gb368 ∧ k_ ≠ gb387 ∧ k_ ≠ gb388) (.slice A0_0 l0_0.length c0_0) l0_0) := ⟨by (with_reducible repeat (first | apply Kd.V_alloc | apply Kd.V_drewN | apply Kd.V_drew)); exact Kd.V_mono (Kd.V_far (p:=⟨gb387,1,none⟩) (Kd.V_mono HO_368000.out (fun k_ hk => (⟨hk,hk.1.2.2.2.1⟩ : _ ∧ k_ ≠ gb387))) (fun _ hk => hk.2) (.int .i64 (wrap64 (t386 + 1)))) (fun _ hk => ⟨hk.1.1.1,⟨hk.1.2,⟨hk.1.1.2.1,⟨hk.1.1.2.2.1,⟨hk.1.1.2.2.2.1,hk.1.1.2.2.2.2⟩⟩⟩⟩⟩)⟩
       have n1_ : Aside0 (Kd.R k32 32 (w57.setCell ⟨gb387,1,none⟩ (.int .i64 (wrap64 (t386 + 1)))) w.heap.size (fun k_ => (w.heap.size ≤ k_) ∧ k_ ≠ gb388) (.slice (some ⟨go36,0,none⟩) t383.length co42) y389) := ⟨by (with_reducible repeat (first | apply Kd.R_alloc | apply Kd.R_drewN | apply Kd.R_drew)); exact Kd.R_mono (Kd.R_far (p:=⟨gb387,1,none⟩) (Kd.R_types HO385.out BK387.out (by decide)) (fun _ hk => hk.2) (.int .i64 (wrap64 (t386 + 1)))) (fun _ hk => ⟨hk.1.1,hk.1.2⟩)⟩
       have n2_ : Aside0 ((w57.setCell ⟨gb387,1,none⟩ (.int .i64 (wrap64 (t386 + 1)))).heap[gb367]? = some (.cells #[.slice A0_0 l0_0.length c0_0,.int .i64 a0_1] 25 (0,0))) := ⟨kF BK367.out⟩
       have n3_ : Aside0 ((w57.setCell ⟨gb387,1,none⟩ (.int .i64 (wrap64 (t386 + 1)))).heap[gb368]? = some (.cells #[.slice none 0 0,.int .i64 0] 25 (0,0))) := ⟨kF BK368.out⟩
       have n4_ : Aside0 ((w57.setCell ⟨gb387,1,none⟩ (.int .i64 (wrap64 (t386 + 1)))).heap[gb387]? = some (.cells #[.slice (some ⟨go36,0,none⟩) t383.length co42,.int .i64 (wrap64 (t386 + 1))] 25 (0,0))) := ⟨by (with_reducible repeat (first | refine blk_drewN ?_ _ | refine blk_drew ?_ | refine blk_alloc ?_ _)); refine blk_put (cs := #[.slice (some ⟨go36,0,none⟩) t383.length co42,.int .i64 t386]) ?_ 1 _ rfl; (with_reducible repeat (first | refine blk_drewN ?_ _ | refine blk_drew ?_ | refine blk_alloc ?_ _)); exact BK387.out⟩
       have n5_ : Aside0 ((w57.setCell ⟨gb387,1,none⟩ (.int .i64 (wrap64 (t386 + 1)))).heap[gb388]? = some (.cells #[.string a1,.int .i64 a0_1,.string a2] 32 (0,0))) := ⟨kF BK388.out⟩
       have n6_ : Aside0 (Below w.heap.size w (w57.setCell ⟨gb387,1,none⟩ (.int .i64 (wrap64 (t386 + 1))))) := ⟨bA⟩
       (try clear HO_368000)
       (try clear HO385)
       (try clear BK367)
       (try clear BK368)
       (try clear BK387)
       (try clear BK388)
       (try clear HB)
       generalize (w57.setCell ⟨gb387,1,none⟩ (.int .i64 (wrap64 (t386 + 1)))) = w59 at n0_ n1_ n2_ n3_ n4_ n5_ n6_ ⊢
       have HO_368000 := n0_
       have HO385 := n1_
       have BK367 := n2_
       have BK368 := n3_
       have BK387 := n4_
       have BK388 := n5_
       have HB := n6_
       clear n0_ n1_ n2_ n3_ n4_ n5_ n6_
       replace HO_368000 := Aside0.mk (Kd.V_drew HO_368000.out)
       replace HO385 := Aside0.mk (Kd.R_drew HO385.out)
       replace BK367 := Aside0.mk (blk_drew BK367.out)
       replace BK368 := Aside0.mk (blk_drew BK368.out)
       replace BK387 := Aside0.mk (blk_drew BK387.out)
       replace BK388 := Aside0.mk (blk_drew BK388.out)
       replace HB := Aside0.mk (below_drew1 HB.out)
       refine start_ (n:=6) (S:=fun w' => w'.cell? ⟨gb387,0,none⟩ = some (.slice (some ⟨go36,0,none⟩) t383.length co42) ∧ w'.cell? ⟨gb387,1,none⟩ = some (.int .i64 (wrap64 (t386 + 1))) ∧ w'.cell? ⟨gb367,0,none⟩ = some (.slice A0_0 l0_0.length c0_0) ∧ w'.cell? ⟨gb367,1,none⟩ = some (.int .i64 a0_1)) (ds := []) (bm 6 0) (by kernel_rfl) rfl rfl ⟨bl BK387 0,bl BK387 1,bl BK367 0,bl BK367 1⟩ (fun hHeld => ?_)
       generalize w59.drew = w60 at HO_368000 HO385 BK367 BK368 BK387 BK388 HB hHeld ⊢
       refine pure_ (i:=1) (N:=some 71) (v:=?_) (a':=?_) (bm 6 2) rfl rfl (by kernel_rfl) (fun _ _ _ h => h) (Or.inl ⟨by rfl,?_⟩) ?_ ?_
       rotate_left
       ·intro w'
        go_simp
        with_reducible rfl
       rotate_left
       ·simp only [Act.put,setIfInBounds_toArray,set_cons_zero,set_cons_succ,i64_w,i32_w]
        rfl
       refine take_ (i:=0) (N:=some 70) (v:=?_) (a':=?_) (bm 6 3) rfl rfl (by kernel_rfl) (fun _ _ _ h => h) (Or.inl ⟨by rfl,?_⟩) hHeld ?_ ?_
       rotate_left
       ·rintro w' ⟨s0,s1,s2,s3⟩
        go_simp
        with_reducible rfl
       rotate_left
       ·simp only [Act.put,setIfInBounds_toArray,set_cons_zero,set_cons_succ,i64_w,i32_w]
        rfl
       refine take_ (i:=2) (N:=some 72) (v:=?_) (a':=?_) (bm 6 7) rfl rfl (by kernel_rfl) (fun _ _ _ h => h) (Or.inl ⟨by rfl,?_⟩) hHeld ?_ ?_
       rotate_left
       ·rintro w' ⟨s0,s1,s2,s3⟩
        go_simp
        with_reducible rfl
       rotate_left
       ·simp only [Act.put,setIfInBounds_toArray,set_cons_zero,set_cons_succ,i64_w,i32_w]
        rfl
       refine one_ (i:=3) (N:=none) (bm 6 15) rfl rfl (by kernel_rfl) (by decide) (fun K hK => ?_)
       have hs61 : w60.cell? ⟨gb368,0,none⟩ = some (.slice none 0 0) := bl BK368 0
       have hfs61 := blk_frozen BK368.out 0
       have hns61_0 := NB367_368.out
       have hns61_2 := NB387_368.out
       have hns61_3 := NB388_368.out
       have hms61_0 := NB368_367.out
       have hms61_2 := NB368_387.out
       have hms61_3 := NB368_388.out
       have hs62 : w60.cell? ⟨gb368,1,none⟩ = some (.int .i64 0) := bl BK368 1
       have hfs62 := blk_frozen BK368.out 1
       have hns62_0 := NB367_368.out
       have hns62_2 := NB387_368.out
       have hns62_3 := NB388_368.out
       have hms62_0 := NB368_367.out
       have hms62_2 := NB368_387.out
       have hms62_3 := NB368_388.out
       refine skip_ (w1 := ?_) (by rfl) rfl ?_ ?_
       rotate_left
       ·go_simp
        rfl
       refine hK.out _ _ ⟨((cell_far (p:=⟨gb368,_,none⟩) NB387_368.out _).trans (((cell_far (p:=⟨gb368,_,none⟩) NB387_368.out _).trans (hHeld.1)))),((cell_far (p:=⟨gb368,_,none⟩) NB387_368.out _).trans (((cell_far (p:=⟨gb368,_,none⟩) NB387_368.out _).trans (hHeld.2.1)))),((cell_far (p:=⟨gb368,_,none⟩) NB367_368.out _).trans (((cell_far (p:=⟨gb368,_,none⟩) NB367_368.out _).trans (hHeld.2.2.1)))),((cell_far (p:=⟨gb368,_,none⟩) NB367_368.out _).trans (((cell_far (p:=⟨gb368,_,none⟩) NB367_368.out _).trans (hHeld.2.2.2))))⟩ (fun hHeld => ?_)
       clear hK K
       refine pure_ (i:=4) (N:=some 7) (v:=?_) (a':=?_) (bm 6 31) rfl rfl (by kernel_rfl) (fun _ _ _ h => h) (Or.inl ⟨by rfl,?_⟩) ?_ ?_
       rotate_left
       ·intro w'
        go_simp
        with_reducible rfl
       rotate_left
       ·simp only [Act.put,setIfInBounds_toArray,set_cons_zero,set_cons_succ,i64_w,i32_w]
        rfl
       refine pure_ (i:=5) (N:=some 8) (v:=?_) (a':=?_) (bm 6 63) rfl rfl (by kernel_rfl) (fun _ _ _ h => h) (Or.inl ⟨by rfl,?_⟩) ?_ ?_
       rotate_left
       ·intro w'
        go_simp
        with_reducible rfl
       rotate_left
       ·simp only [Act.put,setIfInBounds_toArray,set_cons_zero,set_cons_succ,i64_w,i32_w]
        rfl
       refine done_ (by kernel_rfl) ?_
       try go_wp2
       refine bodyPost_ret (results_ctt rfl _ _ gb368 25 #[.slice (some ⟨go36,0,none⟩) t383.length co42,.int .i64 (wrap64 (t386 + 1))] (0,0) _ rfl (kP2 BK368.out) Try.underlying25 rfl (by kernel_rfl)) rfl ?_
       exact ⟨_,by first | rfl | (simp only [i64_w,i32_w] <;> rfl) | (simp [errW_none,errW_some] <;> rfl) | (simp [*,errW_none,errW_some] <;> rfl),Kd.V_mono (Kd.R_V (by (with_reducible repeat (first | apply Kd.R_alloc | apply Kd.R_drewN | apply Kd.R_drew)); exact Kd.R_mono (Kd.R_far (p:=⟨gb368,1,none⟩) (Kd.R_far (p:=⟨gb368,0,none⟩) (Kd.R_types HO385.out BK368.out (by decide)) (fun _ hk => hk.2) (.slice (some ⟨go36,0,none⟩) t383.length co42)) (fun _ hk => hk.2) (.int .i64 (wrap64 (t386 + 1)))) (fun _ hk => hk.1.1))) (fun k_ hk => by first | exact ⟨(.inr (hk.1)),hk.2⟩ | exact (.inr (hk))),bA⟩
      ·rw [if_neg c35] at H
       exact absurd H (by simp)
     ·rw [if_neg c34] at H
      exact absurd H (by simp)
    ·replace c33 := Bool.eq_false_iff.mpr c33
     subst c33
     rw [if_neg (show ¬ (false = true) by decide)] at H
     by_cases c63 : t383.length < 3518437208000 ∧ 0 ≤ t369 ∧ t369 ≤ (t383.length : Int)
     ·rw [if_pos c63] at H
      have LMc63 := Aside0.mk c63
      clear c63
      obtain ⟨y390,hy390⟩ : ∃ y_ : List (S32),y_ = (t383.take (t369 : Int).toNat ++ (⟨a1,a0_1,a2⟩ : S32) :: t383.drop (t369 : Int).toNat) := ⟨_,rfl⟩
      replace H : (some (y390,wrap64 (t386 + 1),a0_1,0)) = some (r1,r2,r3,r4) := by first | (rw [hy390]; with_reducible exact H) | (have H2_ := (Option.bind_some _ _).symm.trans H; rw [hy390]; with_reducible exact H2_) | (have H2_ := (Option.bind_some _ _).symm.trans H; with_reducible exact H2_) | with_reducible exact H | (rw [hy390]; exact H) | exact H
      have Ny390 := Aside0.mk hy390
      clear hy390
      simp only [Option.some.injEq,Prod.mk.injEq] at H
      obtain ⟨rfl,rfl,rfl,rfl⟩ := H
      try go_wp2
      replace HO_368000 := Aside0.mk (Kd.V_drew HO_368000.out)
      replace BK367 := Aside0.mk (blk_drew BK367.out)
      replace BK368 := Aside0.mk (blk_drew BK368.out)
      replace HB := Aside0.mk (below_drew1 HB.out)
      refine start_ (n:=11) (S:=fun w' => w'.cell? ⟨gb367,0,none⟩ = some (.slice A0_0 l0_0.length c0_0) ∧ w'.cell? ⟨gb367,1,none⟩ = some (.int .i64 a0_1)) (ds := []) (bm 11 0) (by kernel_rfl) rfl rfl ⟨bl BK367 0,bl BK367 1⟩ (fun hHeld => ?_); refine with_tabW impl_Store_put.tab5 impl_Store_put.bits5 (fun HT_ HW_ => ?_)
      generalize wc.drew = w64 at HO_368000 BK367 BK368 HB hHeld ⊢
      refine pV_ 2 48 (bm 11 4) HT_.out ?_
      refine pV_ 3 49 (bm 11 12) HT_.out ?_
      refine pV_ 5 51 (bm 11 44) HT_.out ?_
      refine tk 0 46 (bm 11 45) HT_.out HW_.out hHeld ?_
      refine tk 4 50 (bm 11 61) HT_.out HW_.out hHeld ?_
      refine pV_ 6 52 (bm 11 125) HT_.out ?_
      refine join_ (σ := Value × Nat × Nat) 2 (bm 11 511) (fun s_ => [(47,.agg #[s_.1,.int .i64 t386]),(12,.pointer (some ⟨s_.2.1,0,none⟩)),(13,.pointer (some ⟨s_.2.2,0,none⟩))]) (fun s_ w' => (w'.cell? ⟨gb367,0,none⟩ = some (.slice A0_0 l0_0.length c0_0) ∧ w'.cell? ⟨gb367,1,none⟩ = some (.int .i64 a0_1)) ∧ (Kd.R k32 32 w' w.heap.size (fun k_ => (w.heap.size ≤ k_) ∧ k_ ≠ s_.2.2) s_.1 t383) ∧ (Kd.V k32 32 w' w.heap.size (fun k_ => (P0_0_ k_ ∨ w.heap.size ≤ k_) ∧ some k_ ≠ (s_.1 : Value).ownBlock ∧ k_ ≠ gb367 ∧ k_ ≠ gb368 ∧ k_ ≠ s_.2.1 ∧ k_ ≠ s_.2.2) (.slice A0_0 l0_0.length c0_0) l0_0) ∧ (w'.heap[gb367]? = some (.cells #[.slice A0_0 l0_0.length c0_0,.int .i64 a0_1] 25 (0,0))) ∧ (w'.heap[gb368]? = some (.cells #[.slice none 0 0,.int .i64 0] 25 (0,0))) ∧ (w'.heap[s_.2.1]? = some (.cells #[.slice none 0 0,.int .i64 0] 25 (0,0))) ∧ (w'.heap[s_.2.2]? = some (.cells #[.string (⟨#[]⟩ : ByteArray),.int .i64 0,.string (⟨#[]⟩ : ByteArray)] 32 (0,0))) ∧ (w.heap.size ≤ s_.2.1) ∧ (w.heap.size ≤ s_.2.1) ∧ (gb367 ≠ s_.2.1) ∧ (s_.2.1 ≠ gb367) ∧ (gb368 ≠ s_.2.1) ∧ (s_.2.1 ≠ gb368) ∧ (s_.2.2 ≠ s_.2.1) ∧ (s_.2.1 ≠ s_.2.2) ∧ (w.heap.size ≤ s_.2.2) ∧ (w.heap.size ≤ s_.2.2) ∧ (gb367 ≠ s_.2.2) ∧ (s_.2.2 ≠ gb367) ∧ (gb368 ≠ s_.2.2) ∧ (s_.2.2 ≠ gb368) ∧ (Below w.heap.size w w')) ?_ ?_
      rotate_left
      ·intro hJ1_7_8
       refine join_ (σ := Value × Nat) 3 (bm 11 255) (fun s_ => [(47,.agg #[s_.1,.int .i64 t386]),(12,.pointer (some ⟨s_.2,0,none⟩))]) (fun s_ w' => (w'.cell? ⟨gb367,0,none⟩ = some (.slice A0_0 l0_0.length c0_0) ∧ w'.cell? ⟨gb367,1,none⟩ = some (.int .i64 a0_1)) ∧ (Kd.R k32 32 w' w.heap.size (fun k_ => (w.heap.size ≤ k_)) s_.1 t383) ∧ (Kd.V k32 32 w' w.heap.size (fun k_ => (P0_0_ k_ ∨ w.heap.size ≤ k_) ∧ some k_ ≠ (s_.1 : Value).ownBlock ∧ k_ ≠ gb367 ∧ k_ ≠ gb368 ∧ k_ ≠ s_.2) (.slice A0_0 l0_0.length c0_0) l0_0) ∧ (w'.heap[gb367]? = some (.cells #[.slice A0_0 l0_0.length c0_0,.int .i64 a0_1] 25 (0,0))) ∧ (w'.heap[gb368]? = some (.cells #[.slice none 0 0,.int .i64 0] 25 (0,0))) ∧ (w'.heap[s_.2]? = some (.cells #[.slice none 0 0,.int .i64 0] 25 (0,0))) ∧ (w.heap.size ≤ s_.2) ∧ (w.heap.size ≤ s_.2) ∧ (gb367 ≠ s_.2) ∧ (s_.2 ≠ gb367) ∧ (gb368 ≠ s_.2) ∧ (s_.2 ≠ gb368) ∧ (Below w.heap.size w w')) ?_ ?_
       rotate_left
       ·intro hJ1_7
        refine join_ (σ := Value × Nat) 3 (bm 11 383) (fun s_ => [(47,.agg #[s_.1,.int .i64 t386]),(13,.pointer (some ⟨s_.2,0,none⟩))]) (fun s_ w' => (w'.cell? ⟨gb367,0,none⟩ = some (.slice A0_0 l0_0.length c0_0) ∧ w'.cell? ⟨gb367,1,none⟩ = some (.int .i64 a0_1)) ∧ (Kd.R k32 32 w' w.heap.size (fun k_ => (w.heap.size ≤ k_) ∧ k_ ≠ s_.2) s_.1 t383) ∧ (Kd.V k32 32 w' w.heap.size (fun k_ => (P0_0_ k_ ∨ w.heap.size ≤ k_) ∧ some k_ ≠ (s_.1 : Value).ownBlock ∧ k_ ≠ gb367 ∧ k_ ≠ gb368 ∧ k_ ≠ s_.2) (.slice A0_0 l0_0.length c0_0) l0_0) ∧ (w'.heap[gb367]? = some (.cells #[.slice A0_0 l0_0.length c0_0,.int .i64 a0_1] 25 (0,0))) ∧ (w'.heap[gb368]? = some (.cells #[.slice none 0 0,.int .i64 0] 25 (0,0))) ∧ (w'.heap[s_.2]? = some (.cells #[.string (⟨#[]⟩ : ByteArray),.int .i64 0,.string (⟨#[]⟩ : ByteArray)] 32 (0,0))) ∧ (w.heap.size ≤ s_.2) ∧ (w.heap.size ≤ s_.2) ∧ (gb367 ≠ s_.2) ∧ (s_.2 ≠ gb367) ∧ (gb368 ≠ s_.2) ∧ (s_.2 ≠ gb368) ∧ (Below w.heap.size w w')) ?_ ?_
        rotate_left
        ·intro hJ1_8
         refine join_ (σ := Nat × Nat) 3 (bm 11 509) (fun s_ => [(12,.pointer (some ⟨s_.1,0,none⟩)),(13,.pointer (some ⟨s_.2,0,none⟩))]) (fun s_ w' => (w'.cell? ⟨gb367,0,none⟩ = some (.slice A0_0 l0_0.length c0_0) ∧ w'.cell? ⟨gb367,1,none⟩ = some (.int .i64 a0_1)) ∧ (Kd.V k32 32 w' w.heap.size (fun k_ => (P0_0_ k_ ∨ w.heap.size ≤ k_) ∧ k_ ≠ gb367 ∧ k_ ≠ gb368 ∧ k_ ≠ s_.1 ∧ k_ ≠ s_.2) (.slice A0_0 l0_0.length c0_0) l0_0) ∧ (w'.heap[gb367]? = some (.cells #[.slice A0_0 l0_0.length c0_0,.int .i64 a0_1] 25 (0,0))) ∧ (w'.heap[gb368]? = some (.cells #[.slice none 0 0,.int .i64 0] 25 (0,0))) ∧ (w'.heap[s_.1]? = some (.cells #[.slice none 0 0,.int .i64 0] 25 (0,0))) ∧ (w'.heap[s_.2]? = some (.cells #[.string (⟨#[]⟩ : ByteArray),.int .i64 0,.string (⟨#[]⟩ : ByteArray)] 32 (0,0))) ∧ (w.heap.size ≤ s_.1) ∧ (w.heap.size ≤ s_.1) ∧ (gb367 ≠ s_.1) ∧ (s_.1 ≠ gb367) ∧ (gb368 ≠ s_.1) ∧ (s_.1 ≠ gb368) ∧ (s_.2 ≠ s_.1) ∧ (s_.1 ≠ s_.2) ∧ (w.heap.size ≤ s_.2) ∧ (w.heap.size ≤ s_.2) ∧ (gb367 ≠ s_.2) ∧ (s_.2 ≠ gb367) ∧ (gb368 ≠ s_.2) ∧ (s_.2 ≠ gb368) ∧ (Below w.heap.size w w')) ?_ ?_
         rotate_left
         ·intro hJ7_8
          refine join_ (σ := Value) 4 (bm 11 127) (fun s_ => [(47,.agg #[s_,.int .i64 t386])]) (fun s_ w' => (w'.cell? ⟨gb367,0,none⟩ = some (.slice A0_0 l0_0.length c0_0) ∧ w'.cell? ⟨gb367,1,none⟩ = some (.int .i64 a0_1)) ∧ (Kd.R k32 32 w' w.heap.size (fun k_ => (w.heap.size ≤ k_)) s_ t383) ∧ (Kd.V k32 32 w' w.heap.size (fun k_ => (P0_0_ k_ ∨ w.heap.size ≤ k_) ∧ some k_ ≠ (s_ : Value).ownBlock ∧ k_ ≠ gb367 ∧ k_ ≠ gb368) (.slice A0_0 l0_0.length c0_0) l0_0) ∧ (w'.heap[gb367]? = some (.cells #[.slice A0_0 l0_0.length c0_0,.int .i64 a0_1] 25 (0,0))) ∧ (w'.heap[gb368]? = some (.cells #[.slice none 0 0,.int .i64 0] 25 (0,0))) ∧ (Below w.heap.size w w')) ?_ ?_
          rotate_left
          ·intro hJ1
           refine join_ (σ := Nat) 4 (bm 11 253) (fun s_ => [(12,.pointer (some ⟨s_,0,none⟩))]) (fun s_ w' => (w'.cell? ⟨gb367,0,none⟩ = some (.slice A0_0 l0_0.length c0_0) ∧ w'.cell? ⟨gb367,1,none⟩ = some (.int .i64 a0_1)) ∧ (Kd.V k32 32 w' w.heap.size (fun k_ => (P0_0_ k_ ∨ w.heap.size ≤ k_) ∧ k_ ≠ gb367 ∧ k_ ≠ gb368 ∧ k_ ≠ s_) (.slice A0_0 l0_0.length c0_0) l0_0) ∧ (w'.heap[gb367]? = some (.cells #[.slice A0_0 l0_0.length c0_0,.int .i64 a0_1] 25 (0,0))) ∧ (w'.heap[gb368]? = some (.cells #[.slice none 0 0,.int .i64 0] 25 (0,0))) ∧ (w'.heap[s_]? = some (.cells #[.slice none 0 0,.int .i64 0] 25 (0,0))) ∧ (w.heap.size ≤ s_) ∧ (w.heap.size ≤ s_) ∧ (gb367 ≠ s_) ∧ (s_ ≠ gb367) ∧ (gb368 ≠ s_) ∧ (s_ ≠ gb368) ∧ (Below w.heap.size w w')) ?_ ?_
           rotate_left
           ·intro hJ7
            refine join_ (σ := Nat) 4 (bm 11 381) (fun s_ => [(13,.pointer (some ⟨s_,0,none⟩))]) (fun s_ w' => (w'.cell? ⟨gb367,0,none⟩ = some (.slice A0_0 l0_0.length c0_0) ∧ w'.cell? ⟨gb367,1,none⟩ = some (.int .i64 a0_1)) ∧ (Kd.V k32 32 w' w.heap.size (fun k_ => (P0_0_ k_ ∨ w.heap.size ≤ k_) ∧ k_ ≠ gb367 ∧ k_ ≠ gb368 ∧ k_ ≠ s_) (.slice A0_0 l0_0.length c0_0) l0_0) ∧ (w'.heap[gb367]? = some (.cells #[.slice A0_0 l0_0.length c0_0,.int .i64 a0_1] 25 (0,0))) ∧ (w'.heap[gb368]? = some (.cells #[.slice none 0 0,.int .i64 0] 25 (0,0))) ∧ (w'.heap[s_]? = some (.cells #[.string (⟨#[]⟩ : ByteArray),.int .i64 0,.string (⟨#[]⟩ : ByteArray)] 32 (0,0))) ∧ (w.heap.size ≤ s_) ∧ (w.heap.size ≤ s_) ∧ (gb367 ≠ s_) ∧ (s_ ≠ gb367) ∧ (gb368 ≠ s_) ∧ (s_ ≠ gb368) ∧ (Below w.heap.size w w')) ?_ ?_
            rotate_left
            ·intro hJ8
             refine three_ (i:=1) (j:=7) (k:=8) (Ni := some 47) (Nj := some 12) (Nk := some 13) (bm 11 127) (bm 11 253) (bm 11 381) rfl rfl rfl rfl rfl rfl (three_of HT_.out (by kernel_rfl)) (by decide) (by decide) (by decide) (fun K hK => ?_) (fun K hK => ?_) (fun K hK => ?_)
             ·skip
              refine goes_ Try.func36 (by kernel_rfl) rfl #[.agg #[.slice A0_0 l0_0.length c0_0,.int .i64 a0_1]] (by rfl) rfl rfl mA ?_
              with_reducible refine (impl_Store_copied.calls _ _ l0_0 a0_1 t383 t386 _ ?side1 ?side2 A32.out).mono ?_
              (case side1 => repeat (first | exact (Kd.V_reads' HO_368000.out).2.2 | (with_reducible refine Kd.C_alloc ?_ _) | (with_reducible refine Kd.C_drewN ?_ _) | (with_reducible refine Kd.C_drew ?_)))
              (case side2 => exact (Kd.V_reads' HO_368000.out).2.1)
              rintro e w65 ⟨v384,rfl,ho0,hb⟩
              refine ⟨_,rfl,?_⟩
              replace HO_368000 := Aside0.mk (Kd.V_elder' (vA HO_368000.out) (Kd.R_base ho0) hb)
              have HO385 := Aside0.mk (Kd.R_lower (Kd.R_newM (M:=fun k_ => (w.heap.size ≤ k_)) ho0 (below_size bA) (fun k_ h_ => h_)) (below_size bA))
              replace BK367 := bbA BK367 hb
              replace BK368 := bbA BK368 hb
              replace HB := bsA hb
              clear hb
              (try clear ho0)
              refine hK.out _ _ ⟨bl BK367 0,bl BK367 1⟩ (fun hHeld => ?_)
              clear hK K
              refine nw 47 ?_
              exact norm_ nm (hJ1 (v384) _ ⟨hHeld,(rM HO385.out (fun _ hk => hk.1)),(vM HO_368000.out (fun _ hk => ⟨hk.1.1,⟨hk.2,⟨hk.1.2.1,hk.1.2.2⟩⟩⟩)),(kA BK367.out),(kA BK368.out),bA⟩)
             ·skip
              refine bxs (N:=12) (cs := #[.slice none 0 0,.int .i64 0]) (t:=25) ?_
              intro gb387 hg w65 hbox hb
              replace HO_368000 := Aside0.mk (Kd.V_below (Kd.V_elderB (vA HO_368000.out) gb387 (Nat.le_of_eq hg.symm)) hb)
              have BK387 := Aside0.mk (hbox)
              have GW387 := Aside0.mk ((gw hg : w.heap.size ≤ gb387))
              have GE387 := GW387
              replace HB := bsA hb
              have NB367_387 := Aside0.mk ((nl hg BK367.out))
              have NB387_367 := Aside0.mk ((ng hg BK367.out))
              replace BK367 := bbA BK367 hb
              have NB368_387 := Aside0.mk ((nl hg BK368.out))
              have NB387_368 := Aside0.mk ((ng hg BK368.out))
              replace BK368 := bbA BK368 hb
              clear hb hbox hg
              refine hK.out _ _ ⟨bl BK367 0,bl BK367 1⟩ (fun hHeld => ?_)
              clear hK K
              refine nw 12 ?_
              exact norm_ nm (hJ7 (gb387) _ ⟨hHeld,(vM HO_368000.out (fun _ hk => ⟨hk.1.1,⟨hk.1.2.1,⟨hk.1.2.2,hk.2⟩⟩⟩)),(kA BK367.out),(kA BK368.out),(kA BK387.out),GW387.out,GE387.out,NB367_387.out,NB387_367.out,NB368_387.out,NB387_368.out,bA⟩)
             ·skip
              refine bxs (N:=13) (cs := #[.string (⟨#[]⟩ : ByteArray),.int .i64 0,.string (⟨#[]⟩ : ByteArray)]) (t:=32) ?_
              intro gb388 hg w65 hbox hb
              replace HO_368000 := Aside0.mk (Kd.V_below (Kd.V_elderB (vA HO_368000.out) gb388 (Nat.le_of_eq hg.symm)) hb)
              have BK388 := Aside0.mk (hbox)
              have GW388 := Aside0.mk ((gw hg : w.heap.size ≤ gb388))
              have GE388 := GW388
              replace HB := bsA hb
              have NB367_388 := Aside0.mk ((nl hg BK367.out))
              have NB388_367 := Aside0.mk ((ng hg BK367.out))
              replace BK367 := bbA BK367 hb
              have NB368_388 := Aside0.mk ((nl hg BK368.out))
              have NB388_368 := Aside0.mk ((ng hg BK368.out))
              replace BK368 := bbA BK368 hb
              clear hb hbox hg
              refine hK.out _ _ ⟨bl BK367 0,bl BK367 1⟩ (fun hHeld => ?_)
              clear hK K
              refine nw 13 ?_
              exact norm_ nm (hJ8 (gb388) _ ⟨hHeld,(vM HO_368000.out (fun _ hk => ⟨hk.1.1,⟨hk.1.2.1,⟨hk.1.2.2,hk.2⟩⟩⟩)),(kA BK367.out),(kA BK368.out),(kA BK388.out),GW388.out,GE388.out,NB367_388.out,NB388_367.out,NB368_388.out,NB388_368.out,bA⟩)
            ·skip
             rintro gb388 w66 ⟨hS_,h0_,h1_,h2_,h3_,h4_,h5_,h6_,h7_,h8_,h9_,h10_⟩
             replace HO_368000 : Aside0 (Kd.V k32 32 w66 w.heap.size (fun k_ => (P0_0_ k_ ∨ w.heap.size ≤ k_) ∧ k_ ≠ gb367 ∧ k_ ≠ gb368 ∧ k_ ≠ gb388) (.slice A0_0 l0_0.length c0_0) l0_0) := ⟨h0_⟩
             replace BK367 : Aside0 (w66.heap[gb367]? = some (.cells #[.slice A0_0 l0_0.length c0_0,.int .i64 a0_1] 25 (0,0))) := ⟨h1_⟩
             replace BK368 : Aside0 (w66.heap[gb368]? = some (.cells #[.slice none 0 0,.int .i64 0] 25 (0,0))) := ⟨h2_⟩
             have BK388 : Aside0 (w66.heap[gb388]? = some (.cells #[.string (⟨#[]⟩ : ByteArray),.int .i64 0,.string (⟨#[]⟩ : ByteArray)] 32 (0,0))) := ⟨h3_⟩
             have GW388 : Aside0 (w.heap.size ≤ gb388) := ⟨h4_⟩
             have GE388 : Aside0 (w.heap.size ≤ gb388) := ⟨h5_⟩
             have NB367_388 : Aside0 (gb367 ≠ gb388) := ⟨h6_⟩
             have NB388_367 : Aside0 (gb388 ≠ gb367) := ⟨h7_⟩
             have NB368_388 : Aside0 (gb368 ≠ gb388) := ⟨h8_⟩
             have NB388_368 : Aside0 (gb388 ≠ gb368) := ⟨h9_⟩
             replace HB : Aside0 (Below w.heap.size w w66) := ⟨h10_⟩
             clear h0_ h1_ h2_ h3_ h4_ h5_ h6_ h7_ h8_ h9_ h10_
             have hHeld : w66.cell? ⟨gb367,0,none⟩ = some (.slice A0_0 l0_0.length c0_0) ∧ w66.cell? ⟨gb367,1,none⟩ = some (.int .i64 a0_1) := hS_
             refine norm_ (a':=?_) ?_ ?_
             rotate_left
             ·simp only [putAll,Act.put,setIfInBounds_toArray,set_cons_zero,set_cons_succ]
              rfl
             refine two_ (i:=1) (j:=7) (Ni := some 47) (Nj := some 12) (bm 11 383) (bm 11 509) rfl rfl rfl rfl (two_of HT_.out (by kernel_rfl)) (by decide) (by decide) (fun K hK => ?_) (fun K hK => ?_)
             ·skip
              refine goes_ Try.func36 (by kernel_rfl) rfl #[.agg #[.slice A0_0 l0_0.length c0_0,.int .i64 a0_1]] (by rfl) rfl rfl mA ?_
              with_reducible refine (impl_Store_copied.calls _ _ l0_0 a0_1 t383 t386 _ ?side1 ?side2 A32.out).mono ?_
              (case side1 => repeat (first | exact (Kd.V_reads' HO_368000.out).2.2 | (with_reducible refine Kd.C_alloc ?_ _) | (with_reducible refine Kd.C_drewN ?_ _) | (with_reducible refine Kd.C_drew ?_)))
              (case side2 => exact (Kd.V_reads' HO_368000.out).2.1)
              rintro e w67 ⟨v384,rfl,ho0,hb⟩
              refine ⟨_,rfl,?_⟩
              replace HO_368000 := Aside0.mk (Kd.V_elder' (vA HO_368000.out) (Kd.R_base ho0) hb)
              have HO385 := Aside0.mk (Kd.R_lower (Kd.R_newB (Kd.R_newM (M:=fun k_ => (w.heap.size ≤ k_)) ho0 (below_size bA) (fun k_ h_ => h_)) (g:=gb388) (o:=.cells #[.string (⟨#[]⟩ : ByteArray),.int .i64 0,.string (⟨#[]⟩ : ByteArray)] 32 (0,0)) (kA BK388.out)) (below_size bA))
              replace BK367 := bbA BK367 hb
              replace BK368 := bbA BK368 hb
              replace BK388 := bbA BK388 hb
              replace HB := bsA hb
              clear hb
              (try clear ho0)
              refine hK.out _ _ ⟨bl BK367 0,bl BK367 1⟩ (fun hHeld => ?_)
              clear hK K
              refine nw 47 ?_
              exact norm_ nm (hJ1_8 (v384,gb388) _ ⟨hHeld,(rM HO385.out (fun _ hk => ⟨hk.1.1,hk.2⟩)),(vM HO_368000.out (fun _ hk => ⟨hk.1.1,⟨hk.2,⟨hk.1.2.1,⟨hk.1.2.2.1,hk.1.2.2.2⟩⟩⟩⟩)),(kA BK367.out),(kA BK368.out),(kA BK388.out),GW388.out,GE388.out,NB367_388.out,NB388_367.out,NB368_388.out,NB388_368.out,bA⟩)
             ·skip
              refine bxs (N:=12) (cs := #[.slice none 0 0,.int .i64 0]) (t:=25) ?_
              intro gb387 hg w67 hbox hb
              replace HO_368000 := Aside0.mk (Kd.V_below (Kd.V_elderB (vA HO_368000.out) gb387 (Nat.le_of_eq hg.symm)) hb)
              have BK387 := Aside0.mk (hbox)
              have GW387 := Aside0.mk ((gw hg : w.heap.size ≤ gb387))
              have GE387 := GW387
              replace HB := bsA hb
              have NB367_387 := Aside0.mk ((nl hg BK367.out))
              have NB387_367 := Aside0.mk ((ng hg BK367.out))
              replace BK367 := bbA BK367 hb
              have NB368_387 := Aside0.mk ((nl hg BK368.out))
              have NB387_368 := Aside0.mk ((ng hg BK368.out))
              replace BK368 := bbA BK368 hb
              have NB388_387 := Aside0.mk ((nl hg BK388.out))
              have NB387_388 := Aside0.mk ((ng hg BK388.out))
              replace BK388 := bbA BK388 hb
              clear hb hbox hg
              refine hK.out _ _ ⟨bl BK367 0,bl BK367 1⟩ (fun hHeld => ?_)
              clear hK K
              refine nw 12 ?_
              exact norm_ nm (hJ7_8 (gb387,gb388) _ ⟨hHeld,(vM HO_368000.out (fun _ hk => ⟨hk.1.1,⟨hk.1.2.1,⟨hk.1.2.2.1,⟨hk.2,hk.1.2.2.2⟩⟩⟩⟩)),(kA BK367.out),(kA BK368.out),(kA BK387.out),(kA BK388.out),GW387.out,GE387.out,NB367_387.out,NB387_367.out,NB368_387.out,NB387_368.out,NB388_387.out,NB387_388.out,GW388.out,GE388.out,NB367_388.out,NB388_367.out,NB368_388.out,NB388_368.out,bA⟩)
           ·skip
            rintro gb387 w66 ⟨hS_,h0_,h1_,h2_,h3_,h4_,h5_,h6_,h7_,h8_,h9_,h10_⟩
            replace HO_368000 : Aside0 (Kd.V k32 32 w66 w.heap.size (fun k_ => (P0_0_ k_ ∨ w.heap.size ≤ k_) ∧ k_ ≠ gb367 ∧ k_ ≠ gb368 ∧ k_ ≠ gb387) (.slice A0_0 l0_0.length c0_0) l0_0) := ⟨h0_⟩
            replace BK367 : Aside0 (w66.heap[gb367]? = some (.cells #[.slice A0_0 l0_0.length c0_0,.int .i64 a0_1] 25 (0,0))) := ⟨h1_⟩
            replace BK368 : Aside0 (w66.heap[gb368]? = some (.cells #[.slice none 0 0,.int .i64 0] 25 (0,0))) := ⟨h2_⟩
            have BK387 : Aside0 (w66.heap[gb387]? = some (.cells #[.slice none 0 0,.int .i64 0] 25 (0,0))) := ⟨h3_⟩
            have GW387 : Aside0 (w.heap.size ≤ gb387) := ⟨h4_⟩
            have GE387 : Aside0 (w.heap.size ≤ gb387) := ⟨h5_⟩
            have NB367_387 : Aside0 (gb367 ≠ gb387) := ⟨h6_⟩
            have NB387_367 : Aside0 (gb387 ≠ gb367) := ⟨h7_⟩
            have NB368_387 : Aside0 (gb368 ≠ gb387) := ⟨h8_⟩
            have NB387_368 : Aside0 (gb387 ≠ gb368) := ⟨h9_⟩
            replace HB : Aside0 (Below w.heap.size w w66) := ⟨h10_⟩
            clear h0_ h1_ h2_ h3_ h4_ h5_ h6_ h7_ h8_ h9_ h10_
            have hHeld : w66.cell? ⟨gb367,0,none⟩ = some (.slice A0_0 l0_0.length c0_0) ∧ w66.cell? ⟨gb367,1,none⟩ = some (.int .i64 a0_1) := hS_
            refine norm_ (a':=?_) ?_ ?_
            rotate_left
            ·simp only [putAll,Act.put,setIfInBounds_toArray,set_cons_zero,set_cons_succ]
             rfl
            refine two_ (i:=1) (j:=8) (Ni := some 47) (Nj := some 13) (bm 11 255) (bm 11 509) rfl rfl rfl rfl (two_of HT_.out (by kernel_rfl)) (by decide) (by decide) (fun K hK => ?_) (fun K hK => ?_)
            ·skip
             refine goes_ Try.func36 (by kernel_rfl) rfl #[.agg #[.slice A0_0 l0_0.length c0_0,.int .i64 a0_1]] (by rfl) rfl rfl mA ?_
             with_reducible refine (impl_Store_copied.calls _ _ l0_0 a0_1 t383 t386 _ ?side1 ?side2 A32.out).mono ?_
             (case side1 => repeat (first | exact (Kd.V_reads' HO_368000.out).2.2 | (with_reducible refine Kd.C_alloc ?_ _) | (with_reducible refine Kd.C_drewN ?_ _) | (with_reducible refine Kd.C_drew ?_)))
             (case side2 => exact (Kd.V_reads' HO_368000.out).2.1)
             rintro e w67 ⟨v384,rfl,ho0,hb⟩
             refine ⟨_,rfl,?_⟩
             replace HO_368000 := Aside0.mk (Kd.V_elder' (vA HO_368000.out) (Kd.R_base ho0) hb)
             have HO385 := Aside0.mk (Kd.R_lower (Kd.R_newM (M:=fun k_ => (w.heap.size ≤ k_)) ho0 (below_size bA) (fun k_ h_ => h_)) (below_size bA))
             replace BK367 := bbA BK367 hb
             replace BK368 := bbA BK368 hb
             replace BK387 := bbA BK387 hb
             replace HB := bsA hb
             clear hb
             (try clear ho0)
             refine hK.out _ _ ⟨bl BK367 0,bl BK367 1⟩ (fun hHeld => ?_)
             clear hK K
             refine nw 47 ?_
             exact norm_ nm (hJ1_7 (v384,gb387) _ ⟨hHeld,(rM HO385.out (fun _ hk => hk.1)),(vM HO_368000.out (fun _ hk => ⟨hk.1.1,⟨hk.2,⟨hk.1.2.1,⟨hk.1.2.2.1,hk.1.2.2.2⟩⟩⟩⟩)),(kA BK367.out),(kA BK368.out),(kA BK387.out),GW387.out,GE387.out,NB367_387.out,NB387_367.out,NB368_387.out,NB387_368.out,bA⟩)
            ·skip
             refine bxs (N:=13) (cs := #[.string (⟨#[]⟩ : ByteArray),.int .i64 0,.string (⟨#[]⟩ : ByteArray)]) (t:=32) ?_
             intro gb388 hg w67 hbox hb
             replace HO_368000 := Aside0.mk (Kd.V_below (Kd.V_elderB (vA HO_368000.out) gb388 (Nat.le_of_eq hg.symm)) hb)
             have BK388 := Aside0.mk (hbox)
             have GW388 := Aside0.mk ((gw hg : w.heap.size ≤ gb388))
             have GE388 := GW388
             replace HB := bsA hb
             have NB367_388 := Aside0.mk ((nl hg BK367.out))
             have NB388_367 := Aside0.mk ((ng hg BK367.out))
             replace BK367 := bbA BK367 hb
             have NB368_388 := Aside0.mk ((nl hg BK368.out))
             have NB388_368 := Aside0.mk ((ng hg BK368.out))
             replace BK368 := bbA BK368 hb
             have NB387_388 := Aside0.mk ((nl hg BK387.out))
             have NB388_387 := Aside0.mk ((ng hg BK387.out))
             replace BK387 := bbA BK387 hb
             clear hb hbox hg
             refine hK.out _ _ ⟨bl BK367 0,bl BK367 1⟩ (fun hHeld => ?_)
             clear hK K
             refine nw 13 ?_
             exact norm_ nm (hJ7_8 (gb387,gb388) _ ⟨hHeld,(vM HO_368000.out (fun _ hk => ⟨hk.1.1,⟨hk.1.2.1,⟨hk.1.2.2.1,⟨hk.1.2.2.2,hk.2⟩⟩⟩⟩)),(kA BK367.out),(kA BK368.out),(kA BK387.out),(kA BK388.out),GW387.out,GE387.out,NB367_387.out,NB387_367.out,NB368_387.out,NB387_368.out,NB388_387.out,NB387_388.out,GW388.out,GE388.out,NB367_388.out,NB388_367.out,NB368_388.out,NB388_368.out,bA⟩)
          ·skip
           rintro v384 w66 ⟨hS_,h0_,h1_,h2_,h3_,h4_⟩
           have HO385 : Aside0 (Kd.R k32 32 w66 w.heap.size (fun k_ => (w.heap.size ≤ k_)) v384 t383) := ⟨h0_⟩
           replace HO_368000 : Aside0 (Kd.V k32 32 w66 w.heap.size (fun k_ => (P0_0_ k_ ∨ w.heap.size ≤ k_) ∧ some k_ ≠ (v384 : Value).ownBlock ∧ k_ ≠ gb367 ∧ k_ ≠ gb368) (.slice A0_0 l0_0.length c0_0) l0_0) := ⟨h1_⟩
           replace BK367 : Aside0 (w66.heap[gb367]? = some (.cells #[.slice A0_0 l0_0.length c0_0,.int .i64 a0_1] 25 (0,0))) := ⟨h2_⟩
           replace BK368 : Aside0 (w66.heap[gb368]? = some (.cells #[.slice none 0 0,.int .i64 0] 25 (0,0))) := ⟨h3_⟩
           replace HB : Aside0 (Below w.heap.size w w66) := ⟨h4_⟩
           clear h0_ h1_ h2_ h3_ h4_
           have hHeld : w66.cell? ⟨gb367,0,none⟩ = some (.slice A0_0 l0_0.length c0_0) ∧ w66.cell? ⟨gb367,1,none⟩ = some (.int .i64 a0_1) := hS_
           refine norm_ (a':=?_) ?_ ?_
           rotate_left
           ·simp only [putAll,Act.put,setIfInBounds_toArray,set_cons_zero,set_cons_succ]
            rfl
           refine two_ (i:=7) (j:=8) (Ni := some 12) (Nj := some 13) (bm 11 255) (bm 11 383) rfl rfl rfl rfl (two_of HT_.out (by kernel_rfl)) (by decide) (by decide) (fun K hK => ?_) (fun K hK => ?_)
           ·skip
            refine bxs (N:=12) (cs := #[.slice none 0 0,.int .i64 0]) (t:=25) ?_
            intro gb387 hg w67 hbox hb
            replace HO_368000 := Aside0.mk (Kd.V_below (Kd.V_elderB (vA HO_368000.out) gb387 (Nat.le_of_eq hg.symm)) hb)
            replace HO385 := Aside0.mk (Kd.R_below (rA HO385.out) hb)
            have BK387 := Aside0.mk (hbox)
            have GW387 := Aside0.mk ((gw hg : w.heap.size ≤ gb387))
            have GE387 := GW387
            replace HB := bsA hb
            have NB367_387 := Aside0.mk ((nl hg BK367.out))
            have NB387_367 := Aside0.mk ((ng hg BK367.out))
            replace BK367 := bbA BK367 hb
            have NB368_387 := Aside0.mk ((nl hg BK368.out))
            have NB387_368 := Aside0.mk ((ng hg BK368.out))
            replace BK368 := bbA BK368 hb
            clear hb hbox hg
            refine hK.out _ _ ⟨bl BK367 0,bl BK367 1⟩ (fun hHeld => ?_)
            clear hK K
            refine nw 12 ?_
            exact norm_ nm (hJ1_7 (v384,gb387) _ ⟨hHeld,(rA HO385.out),(vM HO_368000.out (fun _ hk => ⟨hk.1.1,⟨hk.1.2.1,⟨hk.1.2.2.1,⟨hk.1.2.2.2,hk.2⟩⟩⟩⟩)),(kA BK367.out),(kA BK368.out),(kA BK387.out),GW387.out,GE387.out,NB367_387.out,NB387_367.out,NB368_387.out,NB387_368.out,bA⟩)
           ·skip
            refine bxs (N:=13) (cs := #[.string (⟨#[]⟩ : ByteArray),.int .i64 0,.string (⟨#[]⟩ : ByteArray)]) (t:=32) ?_
            intro gb388 hg w67 hbox hb
            replace HO_368000 := Aside0.mk (Kd.V_below (Kd.V_elderB (vA HO_368000.out) gb388 (Nat.le_of_eq hg.symm)) hb)
            replace HO385 := Aside0.mk (Kd.R_below (Kd.R_elderB (rA HO385.out) gb388 (Nat.le_of_eq hg.symm)) hb)
            have BK388 := Aside0.mk (hbox)
            have GW388 := Aside0.mk ((gw hg : w.heap.size ≤ gb388))
            have GE388 := GW388
            replace HB := bsA hb
            have NB367_388 := Aside0.mk ((nl hg BK367.out))
            have NB388_367 := Aside0.mk ((ng hg BK367.out))
            replace BK367 := bbA BK367 hb
            have NB368_388 := Aside0.mk ((nl hg BK368.out))
            have NB388_368 := Aside0.mk ((ng hg BK368.out))
            replace BK368 := bbA BK368 hb
            clear hb hbox hg
            refine hK.out _ _ ⟨bl BK367 0,bl BK367 1⟩ (fun hHeld => ?_)
            clear hK K
            refine nw 13 ?_
            exact norm_ nm (hJ1_8 (v384,gb388) _ ⟨hHeld,(rA HO385.out),(vM HO_368000.out (fun _ hk => ⟨hk.1.1,⟨hk.1.2.1,⟨hk.1.2.2.1,⟨hk.1.2.2.2,hk.2⟩⟩⟩⟩)),(kA BK367.out),(kA BK368.out),(kA BK388.out),GW388.out,GE388.out,NB367_388.out,NB388_367.out,NB368_388.out,NB388_368.out,bA⟩)
         ·skip
          rintro ⟨gb387,gb388⟩ w67 ⟨hS_,h0_,h1_,h2_,h3_,h4_,h5_,h6_,h7_,h8_,h9_,h10_,h11_,h12_,h13_,h14_,h15_,h16_,h17_,h18_,h19_⟩
          replace HO_368000 : Aside0 (Kd.V k32 32 w67 w.heap.size (fun k_ => (P0_0_ k_ ∨ w.heap.size ≤ k_) ∧ k_ ≠ gb367 ∧ k_ ≠ gb368 ∧ k_ ≠ gb387 ∧ k_ ≠ gb388) (.slice A0_0 l0_0.length c0_0) l0_0) := ⟨h0_⟩
          replace BK367 : Aside0 (w67.heap[gb367]? = some (.cells #[.slice A0_0 l0_0.length c0_0,.int .i64 a0_1] 25 (0,0))) := ⟨h1_⟩
          replace BK368 : Aside0 (w67.heap[gb368]? = some (.cells #[.slice none 0 0,.int .i64 0] 25 (0,0))) := ⟨h2_⟩
          have BK387 : Aside0 (w67.heap[gb387]? = some (.cells #[.slice none 0 0,.int .i64 0] 25 (0,0))) := ⟨h3_⟩
          have BK388 : Aside0 (w67.heap[gb388]? = some (.cells #[.string (⟨#[]⟩ : ByteArray),.int .i64 0,.string (⟨#[]⟩ : ByteArray)] 32 (0,0))) := ⟨h4_⟩
          have GW387 : Aside0 (w.heap.size ≤ gb387) := ⟨h5_⟩
          have GE387 : Aside0 (w.heap.size ≤ gb387) := ⟨h6_⟩
          have NB367_387 : Aside0 (gb367 ≠ gb387) := ⟨h7_⟩
          have NB387_367 : Aside0 (gb387 ≠ gb367) := ⟨h8_⟩
          have NB368_387 : Aside0 (gb368 ≠ gb387) := ⟨h9_⟩
          have NB387_368 : Aside0 (gb387 ≠ gb368) := ⟨h10_⟩
          have NB388_387 : Aside0 (gb388 ≠ gb387) := ⟨h11_⟩
          have NB387_388 : Aside0 (gb387 ≠ gb388) := ⟨h12_⟩
          have GW388 : Aside0 (w.heap.size ≤ gb388) := ⟨h13_⟩
          have GE388 : Aside0 (w.heap.size ≤ gb388) := ⟨h14_⟩
          have NB367_388 : Aside0 (gb367 ≠ gb388) := ⟨h15_⟩
          have NB388_367 : Aside0 (gb388 ≠ gb367) := ⟨h16_⟩
          have NB368_388 : Aside0 (gb368 ≠ gb388) := ⟨h17_⟩
          have NB388_368 : Aside0 (gb388 ≠ gb368) := ⟨h18_⟩
          replace HB : Aside0 (Below w.heap.size w w67) := ⟨h19_⟩
          clear h0_ h1_ h2_ h3_ h4_ h5_ h6_ h7_ h8_ h9_ h10_ h11_ h12_ h13_ h14_ h15_ h16_ h17_ h18_ h19_
          have hHeld : w67.cell? ⟨gb367,0,none⟩ = some (.slice A0_0 l0_0.length c0_0) ∧ w67.cell? ⟨gb367,1,none⟩ = some (.int .i64 a0_1) := hS_
          refine norm_ (a':=?_) ?_ ?_
          rotate_left
          ·simp only [putAll,Act.put,setIfInBounds_toArray,set_cons_zero,set_cons_succ]
           rfl
          refine one_ (i:=1) (N:=some 47) (bm 11 511) rfl rfl (one_of HT_.out (by kernel_rfl)) (by decide) (fun K hK => ?_)
          refine goes_ Try.func36 (by kernel_rfl) rfl #[.agg #[.slice A0_0 l0_0.length c0_0,.int .i64 a0_1]] (by rfl) rfl rfl mA ?_
          with_reducible refine (impl_Store_copied.calls _ _ l0_0 a0_1 t383 t386 _ ?side1 ?side2 A32.out).mono ?_
          (case side1 => repeat (first | exact (Kd.V_reads' HO_368000.out).2.2 | (with_reducible refine Kd.C_alloc ?_ _) | (with_reducible refine Kd.C_drewN ?_ _) | (with_reducible refine Kd.C_drew ?_)))
          (case side2 => exact (Kd.V_reads' HO_368000.out).2.1)
          rintro e w68 ⟨v384,rfl,ho0,hb⟩
          refine ⟨_,rfl,?_⟩
          replace HO_368000 := Aside0.mk (Kd.V_elder' (vA HO_368000.out) (Kd.R_base ho0) hb)
          have HO385 := Aside0.mk (Kd.R_lower (Kd.R_newB (Kd.R_newM (M:=fun k_ => (w.heap.size ≤ k_)) ho0 (below_size bA) (fun k_ h_ => h_)) (g:=gb388) (o:=.cells #[.string (⟨#[]⟩ : ByteArray),.int .i64 0,.string (⟨#[]⟩ : ByteArray)] 32 (0,0)) (kA BK388.out)) (below_size bA))
          replace BK367 := bbA BK367 hb
          replace BK368 := bbA BK368 hb
          replace BK387 := bbA BK387 hb
          replace BK388 := bbA BK388 hb
          replace HB := bsA hb
          clear hb
          (try clear ho0)
          refine hK.out _ _ ⟨bl BK367 0,bl BK367 1⟩ (fun hHeld => ?_)
          clear hK K
          refine nw 47 ?_
          exact norm_ nm (hJ1_7_8 (v384,gb387,gb388) _ ⟨hHeld,(rM HO385.out (fun _ hk => ⟨hk.1.1,hk.2⟩)),(vM HO_368000.out (fun _ hk => ⟨hk.1.1,⟨hk.2,⟨hk.1.2.1,⟨hk.1.2.2.1,⟨hk.1.2.2.2.1,hk.1.2.2.2.2⟩⟩⟩⟩⟩)),(kA BK367.out),(kA BK368.out),(kA BK387.out),(kA BK388.out),GW387.out,GE387.out,NB367_387.out,NB387_367.out,NB368_387.out,NB387_368.out,NB388_387.out,NB387_388.out,GW388.out,GE388.out,NB367_388.out,NB388_367.out,NB368_388.out,NB388_368.out,bA⟩)
        ·skip
         rintro ⟨v384,gb388⟩ w67 ⟨hS_,h0_,h1_,h2_,h3_,h4_,h5_,h6_,h7_,h8_,h9_,h10_,h11_⟩
         have HO385 : Aside0 (Kd.R k32 32 w67 w.heap.size (fun k_ => (w.heap.size ≤ k_) ∧ k_ ≠ gb388) v384 t383) := ⟨h0_⟩
         replace HO_368000 : Aside0 (Kd.V k32 32 w67 w.heap.size (fun k_ => (P0_0_ k_ ∨ w.heap.size ≤ k_) ∧ some k_ ≠ (v384 : Value).ownBlock ∧ k_ ≠ gb367 ∧ k_ ≠ gb368 ∧ k_ ≠ gb388) (.slice A0_0 l0_0.length c0_0) l0_0) := ⟨h1_⟩
         replace BK367 : Aside0 (w67.heap[gb367]? = some (.cells #[.slice A0_0 l0_0.length c0_0,.int .i64 a0_1] 25 (0,0))) := ⟨h2_⟩
         replace BK368 : Aside0 (w67.heap[gb368]? = some (.cells #[.slice none 0 0,.int .i64 0] 25 (0,0))) := ⟨h3_⟩
         have BK388 : Aside0 (w67.heap[gb388]? = some (.cells #[.string (⟨#[]⟩ : ByteArray),.int .i64 0,.string (⟨#[]⟩ : ByteArray)] 32 (0,0))) := ⟨h4_⟩
         have GW388 : Aside0 (w.heap.size ≤ gb388) := ⟨h5_⟩
         have GE388 : Aside0 (w.heap.size ≤ gb388) := ⟨h6_⟩
         have NB367_388 : Aside0 (gb367 ≠ gb388) := ⟨h7_⟩
         have NB388_367 : Aside0 (gb388 ≠ gb367) := ⟨h8_⟩
         have NB368_388 : Aside0 (gb368 ≠ gb388) := ⟨h9_⟩
         have NB388_368 : Aside0 (gb388 ≠ gb368) := ⟨h10_⟩
         replace HB : Aside0 (Below w.heap.size w w67) := ⟨h11_⟩
         clear h0_ h1_ h2_ h3_ h4_ h5_ h6_ h7_ h8_ h9_ h10_ h11_
         have hHeld : w67.cell? ⟨gb367,0,none⟩ = some (.slice A0_0 l0_0.length c0_0) ∧ w67.cell? ⟨gb367,1,none⟩ = some (.int .i64 a0_1) := hS_
         refine norm_ (a':=?_) ?_ ?_
         rotate_left
         ·simp only [putAll,Act.put,setIfInBounds_toArray,set_cons_zero,set_cons_succ]
          rfl
         refine one_ (i:=7) (N:=some 12) (bm 11 511) rfl rfl (one_of HT_.out (by kernel_rfl)) (by decide) (fun K hK => ?_)
         refine bxs (N:=12) (cs := #[.slice none 0 0,.int .i64 0]) (t:=25) ?_
         intro gb387 hg w68 hbox hb
         replace HO_368000 := Aside0.mk (Kd.V_below (Kd.V_elderB (vA HO_368000.out) gb387 (Nat.le_of_eq hg.symm)) hb)
         replace HO385 := Aside0.mk (Kd.R_below (rA HO385.out) hb)
         have BK387 := Aside0.mk (hbox)
         have GW387 := Aside0.mk ((gw hg : w.heap.size ≤ gb387))
         have GE387 := GW387
         replace HB := bsA hb
         have NB367_387 := Aside0.mk ((nl hg BK367.out))
         have NB387_367 := Aside0.mk ((ng hg BK367.out))
         replace BK367 := bbA BK367 hb
         have NB368_387 := Aside0.mk ((nl hg BK368.out))
         have NB387_368 := Aside0.mk ((ng hg BK368.out))
         replace BK368 := bbA BK368 hb
         have NB388_387 := Aside0.mk ((nl hg BK388.out))
         have NB387_388 := Aside0.mk ((ng hg BK388.out))
         replace BK388 := bbA BK388 hb
         clear hb hbox hg
         refine hK.out _ _ ⟨bl BK367 0,bl BK367 1⟩ (fun hHeld => ?_)
         clear hK K
         refine nw 12 ?_
         exact norm_ nm (hJ1_7_8 (v384,gb387,gb388) _ ⟨hHeld,(rA HO385.out),(vM HO_368000.out (fun _ hk => ⟨hk.1.1,⟨hk.1.2.1,⟨hk.1.2.2.1,⟨hk.1.2.2.2.1,⟨hk.2,hk.1.2.2.2.2⟩⟩⟩⟩⟩)),(kA BK367.out),(kA BK368.out),(kA BK387.out),(kA BK388.out),GW387.out,GE387.out,NB367_387.out,NB387_367.out,NB368_387.out,NB387_368.out,NB388_387.out,NB387_388.out,GW388.out,GE388.out,NB367_388.out,NB388_367.out,NB368_388.out,NB388_368.out,bA⟩)
       ·skip
        rintro ⟨v384,gb387⟩ w67 ⟨hS_,h0_,h1_,h2_,h3_,h4_,h5_,h6_,h7_,h8_,h9_,h10_,h11_⟩
        have HO385 : Aside0 (Kd.R k32 32 w67 w.heap.size (fun k_ => (w.heap.size ≤ k_)) v384 t383) := ⟨h0_⟩
        replace HO_368000 : Aside0 (Kd.V k32 32 w67 w.heap.size (fun k_ => (P0_0_ k_ ∨ w.heap.size ≤ k_) ∧ some k_ ≠ (v384 : Value).ownBlock ∧ k_ ≠ gb367 ∧ k_ ≠ gb368 ∧ k_ ≠ gb387) (.slice A0_0 l0_0.length c0_0) l0_0) := ⟨h1_⟩
        replace BK367 : Aside0 (w67.heap[gb367]? = some (.cells #[.slice A0_0 l0_0.length c0_0,.int .i64 a0_1] 25 (0,0))) := ⟨h2_⟩
        replace BK368 : Aside0 (w67.heap[gb368]? = some (.cells #[.slice none 0 0,.int .i64 0] 25 (0,0))) := ⟨h3_⟩
        have BK387 : Aside0 (w67.heap[gb387]? = some (.cells #[.slice none 0 0,.int .i64 0] 25 (0,0))) := ⟨h4_⟩
        have GW387 : Aside0 (w.heap.size ≤ gb387) := ⟨h5_⟩
        have GE387 : Aside0 (w.heap.size ≤ gb387) := ⟨h6_⟩
        have NB367_387 : Aside0 (gb367 ≠ gb387) := ⟨h7_⟩
        have NB387_367 : Aside0 (gb387 ≠ gb367) := ⟨h8_⟩
        have NB368_387 : Aside0 (gb368 ≠ gb387) := ⟨h9_⟩
        have NB387_368 : Aside0 (gb387 ≠ gb368) := ⟨h10_⟩
        replace HB : Aside0 (Below w.heap.size w w67) := ⟨h11_⟩
        clear h0_ h1_ h2_ h3_ h4_ h5_ h6_ h7_ h8_ h9_ h10_ h11_
        have hHeld : w67.cell? ⟨gb367,0,none⟩ = some (.slice A0_0 l0_0.length c0_0) ∧ w67.cell? ⟨gb367,1,none⟩ = some (.int .i64 a0_1) := hS_
        refine norm_ (a':=?_) ?_ ?_
        rotate_left
        ·simp only [putAll,Act.put,setIfInBounds_toArray,set_cons_zero,set_cons_succ]
         rfl
        refine one_ (i:=8) (N:=some 13) (bm 11 511) rfl rfl (one_of HT_.out (by kernel_rfl)) (by decide) (fun K hK => ?_)
        refine bxs (N:=13) (cs := #[.string (⟨#[]⟩ : ByteArray),.int .i64 0,.string (⟨#[]⟩ : ByteArray)]) (t:=32) ?_
        intro gb388 hg w68 hbox hb
        replace HO_368000 := Aside0.mk (Kd.V_below (Kd.V_elderB (vA HO_368000.out) gb388 (Nat.le_of_eq hg.symm)) hb)
        replace HO385 := Aside0.mk (Kd.R_below (Kd.R_elderB (rA HO385.out) gb388 (Nat.le_of_eq hg.symm)) hb)
        have BK388 := Aside0.mk (hbox)
        have GW388 := Aside0.mk ((gw hg : w.heap.size ≤ gb388))
        have GE388 := GW388
        replace HB := bsA hb
        have NB367_388 := Aside0.mk ((nl hg BK367.out))
        have NB388_367 := Aside0.mk ((ng hg BK367.out))
        replace BK367 := bbA BK367 hb
        have NB368_388 := Aside0.mk ((nl hg BK368.out))
        have NB388_368 := Aside0.mk ((ng hg BK368.out))
        replace BK368 := bbA BK368 hb
        have NB387_388 := Aside0.mk ((nl hg BK387.out))
        have NB388_387 := Aside0.mk ((ng hg BK387.out))
        replace BK387 := bbA BK387 hb
        clear hb hbox hg
        refine hK.out _ _ ⟨bl BK367 0,bl BK367 1⟩ (fun hHeld => ?_)
        clear hK K
        refine nw 13 ?_
        exact norm_ nm (hJ1_7_8 (v384,gb387,gb388) _ ⟨hHeld,(rA HO385.out),(vM HO_368000.out (fun _ hk => ⟨hk.1.1,⟨hk.1.2.1,⟨hk.1.2.2.1,⟨hk.1.2.2.2.1,⟨hk.1.2.2.2.2,hk.2⟩⟩⟩⟩⟩)),(kA BK367.out),(kA BK368.out),(kA BK387.out),(kA BK388.out),GW387.out,GE387.out,NB367_387.out,NB387_367.out,NB368_387.out,NB387_368.out,NB388_387.out,NB387_388.out,GW388.out,GE388.out,NB367_388.out,NB388_367.out,NB368_388.out,NB388_368.out,bA⟩)
      rintro ⟨v384,gb387,gb388⟩ w68 ⟨hS_,h0_,h1_,h2_,h3_,h4_,h5_,h6_,h7_,h8_,h9_,h10_,h11_,h12_,h13_,h14_,h15_,h16_,h17_,h18_,h19_,h20_⟩
      have HO385 : Aside0 (Kd.R k32 32 w68 w.heap.size (fun k_ => (w.heap.size ≤ k_) ∧ k_ ≠ gb388) v384 t383) := ⟨h0_⟩
      replace HO_368000 : Aside0 (Kd.V k32 32 w68 w.heap.size (fun k_ => (P0_0_ k_ ∨ w.heap.size ≤ k_) ∧ some k_ ≠ (v384 : Value).ownBlock ∧ k_ ≠ gb367 ∧ k_ ≠ gb368 ∧ k_ ≠ gb387 ∧ k_ ≠ gb388) (.slice A0_0 l0_0.length c0_0) l0_0) := ⟨h1_⟩
      replace BK367 : Aside0 (w68.heap[gb367]? = some (.cells #[.slice A0_0 l0_0.length c0_0,.int .i64 a0_1] 25 (0,0))) := ⟨h2_⟩
      replace BK368 : Aside0 (w68.heap[gb368]? = some (.cells #[.slice none 0 0,.int .i64 0] 25 (0,0))) := ⟨h3_⟩
      have BK387 : Aside0 (w68.heap[gb387]? = some (.cells #[.slice none 0 0,.int .i64 0] 25 (0,0))) := ⟨h4_⟩
      have BK388 : Aside0 (w68.heap[gb388]? = some (.cells #[.string (⟨#[]⟩ : ByteArray),.int .i64 0,.string (⟨#[]⟩ : ByteArray)] 32 (0,0))) := ⟨h5_⟩
      have GW387 : Aside0 (w.heap.size ≤ gb387) := ⟨h6_⟩
      have GE387 : Aside0 (w.heap.size ≤ gb387) := ⟨h7_⟩
      have NB367_387 : Aside0 (gb367 ≠ gb387) := ⟨h8_⟩
      have NB387_367 : Aside0 (gb387 ≠ gb367) := ⟨h9_⟩
      have NB368_387 : Aside0 (gb368 ≠ gb387) := ⟨h10_⟩
      have NB387_368 : Aside0 (gb387 ≠ gb368) := ⟨h11_⟩
      have NB388_387 : Aside0 (gb388 ≠ gb387) := ⟨h12_⟩
      have NB387_388 : Aside0 (gb387 ≠ gb388) := ⟨h13_⟩
      have GW388 : Aside0 (w.heap.size ≤ gb388) := ⟨h14_⟩
      have GE388 : Aside0 (w.heap.size ≤ gb388) := ⟨h15_⟩
      have NB367_388 : Aside0 (gb367 ≠ gb388) := ⟨h16_⟩
      have NB388_367 : Aside0 (gb388 ≠ gb367) := ⟨h17_⟩
      have NB368_388 : Aside0 (gb368 ≠ gb388) := ⟨h18_⟩
      have NB388_368 : Aside0 (gb388 ≠ gb368) := ⟨h19_⟩
      replace HB : Aside0 (Below w.heap.size w w68) := ⟨h20_⟩
      clear h0_ h1_ h2_ h3_ h4_ h5_ h6_ h7_ h8_ h9_ h10_ h11_ h12_ h13_ h14_ h15_ h16_ h17_ h18_ h19_ h20_
      have hHeld : w68.cell? ⟨gb367,0,none⟩ = some (.slice A0_0 l0_0.length c0_0) ∧ w68.cell? ⟨gb367,1,none⟩ = some (.int .i64 a0_1) := hS_
      obtain ⟨Ao69,co69,eo69⟩ := Kd.R_slice HO385.out
      (first | subst eo69 | (injection eo69 with f1_ f2_ f3_; have f4_ := f1_.symm; have f5_ := f3_.symm; clear f1_ f2_ f3_; subst f4_; subst f5_))
      refine norm_ (a':=?_) ?_ ?_
      rotate_left
      ·simp only [putAll,Act.put,setIfInBounds_toArray,set_cons_zero,set_cons_succ]
       rfl
      refine one_ (i:=9) (N:=none) (bm 11 1023) rfl rfl (one_of HT_.out (by kernel_rfl)) (by decide) (fun K hK => ?_)
      have hs70 : w68.cell? ⟨gb387,0,none⟩ = some (.slice none 0 0) := bl BK387 0
      have hfs70 := blk_frozen BK387.out 0
      have hns70_0 := NB367_387.out
      have hns70_1 := NB368_387.out
      have hns70_3 := NB388_387.out
      have hms70_0 := NB387_367.out
      have hms70_1 := NB387_368.out
      have hms70_3 := NB387_388.out
      have hs71 : w68.cell? ⟨gb387,1,none⟩ = some (.int .i64 0) := bl BK387 1
      have hfs71 := blk_frozen BK387.out 1
      have hns71_0 := NB367_387.out
      have hns71_1 := NB368_387.out
      have hns71_3 := NB388_387.out
      have hms71_0 := NB387_367.out
      have hms71_1 := NB387_368.out
      have hms71_3 := NB387_388.out
      refine skip_ (w1 := ?_) (by rfl) rfl ?_ ?_
      rotate_left
      ·go_simp
       rfl
      refine hK.out _ _ ⟨((cell_far (p:=⟨gb387,_,none⟩) NB367_387.out _).trans (((cell_far (p:=⟨gb387,_,none⟩) NB367_387.out _).trans (hHeld.1)))),((cell_far (p:=⟨gb387,_,none⟩) NB367_387.out _).trans (((cell_far (p:=⟨gb387,_,none⟩) NB367_387.out _).trans (hHeld.2))))⟩ (fun hHeld => ?_)
      clear hK K
      refine one_ (i:=10) (N:=none) (bm 11 2047) rfl rfl (one_of HT_.out (by kernel_rfl)) (by decide) (fun K hK => ?_)
      have hs72 : w68.cell? ⟨gb388,0,none⟩ = some (.string (⟨#[]⟩ : ByteArray)) := bl BK388 0
      have hfs72 := blk_frozen BK388.out 0
      have hns72_0 := NB367_388.out
      have hns72_1 := NB368_388.out
      have hns72_2 := NB387_388.out
      have hms72_0 := NB388_367.out
      have hms72_1 := NB388_368.out
      have hms72_2 := NB388_387.out
      have hs73 : w68.cell? ⟨gb388,1,none⟩ = some (.int .i64 0) := bl BK388 1
      have hfs73 := blk_frozen BK388.out 1
      have hns73_0 := NB367_388.out
      have hns73_1 := NB368_388.out
      have hns73_2 := NB387_388.out
      have hms73_0 := NB388_367.out
      have hms73_1 := NB388_368.out
      have hms73_2 := NB388_387.out
      have hs74 : w68.cell? ⟨gb388,2,none⟩ = some (.string (⟨#[]⟩ : ByteArray)) := bl BK388 2
      have hfs74 := blk_frozen BK388.out 2
      have hns74_0 := NB367_388.out
      have hns74_1 := NB368_388.out
      have hns74_2 := NB387_388.out
      have hms74_0 := NB388_367.out
      have hms74_1 := NB388_368.out
      have hms74_2 := NB388_387.out
      refine skip_ (w1 := ?_) (by rfl) rfl ?_ ?_
      rotate_left
      ·go_simp
       rfl
      refine hK.out _ _ ⟨((cell_far (p:=⟨gb388,_,none⟩) NB367_388.out _).trans (((cell_far (p:=⟨gb388,_,none⟩) NB367_388.out _).trans (((cell_far (p:=⟨gb388,_,none⟩) NB367_388.out _).trans (hHeld.1)))))),((cell_far (p:=⟨gb388,_,none⟩) NB367_388.out _).trans (((cell_far (p:=⟨gb388,_,none⟩) NB367_388.out _).trans (((cell_far (p:=⟨gb388,_,none⟩) NB367_388.out _).trans (hHeld.2))))))⟩ (fun hHeld => ?_)
      clear hK K
      refine done_ (done_of HT_.out (by kernel_rfl)) ?_
      have hnb75 := NB387_367.out
      have hnc75 := NB367_387.out
      have hnb76 := NB387_368.out
      have hnc76 := NB368_387.out
      have hnb77 := NB387_388.out
      have hnc77 := NB388_387.out
      obtain ⟨hcz78_0,hcz78_1⟩ := cl2 BK387.out
      obtain ⟨hfz78_0,hfz78_1⟩ := fz2 BK387.out
      have hnb79 := NB388_367.out
      have hnc79 := NB367_388.out
      have hnb80 := NB388_368.out
      have hnc80 := NB368_388.out
      obtain ⟨hcz81_0,hcz81_1,hcz81_2⟩ := cl3 BK388.out
      obtain ⟨hfz81_0,hfz81_1,hfz81_2⟩ := fz3 BK388.out
      try go_wp2_with (first | ((with_reducible refine gate_callee (f:=67) rfl ?_); (try (refine gate_guard (by rfl) ?_; dsimp only)); refine ins_step (w0 := w) w.heap.size rfl (.tmp 60) (.tmp 61) (.tmp 63) rfl _ (.slice Ao69 t383.length co69) t383 (⟨a1,a0_1,a2⟩ : S32) [.string a1,.int .i64 a0_1,.string a2] (fun k_ => (w.heap.size ≤ k_) ∧ k_ ≠ gb388) rfl rfl ?aI (by first | (go_simp; done) | (go_simp; rfl)) ?aP ?aF ?aO ?aB ?aS ?aL ?_; (case aI => have := LMc63.out; omega); (case aP => exact k32_mkM _ _ _ (⟨a1,a0_1,a2⟩ : S32)); (case aB => exact bA); (case aF => exact (fun k_ hk => ⟨(Nat.le_trans (below_size bA) hk),Kd.freshB (g:=gb388) (o:=.cells #[.string a1,.int .i64 a0_1,.string a2] 32 (0,0)) (by (with_reducible repeat (first | refine blk_drewN ?_ _ | refine blk_drew ?_ | refine blk_alloc ?_ _)); refine blk_put (cs := #[.string a1,.int .i64 a0_1,.string (⟨#[]⟩ : ByteArray)]) ?_ 2 _ rfl; (with_reducible repeat (first | refine blk_drewN ?_ _ | refine blk_drew ?_ | refine blk_alloc ?_ _)); refine blk_put (cs := #[.string a1,.int .i64 0,.string (⟨#[]⟩ : ByteArray)]) ?_ 1 _ rfl; (with_reducible repeat (first | refine blk_drewN ?_ _ | refine blk_drew ?_ | refine blk_alloc ?_ _)); refine blk_put (cs := #[.string (⟨#[]⟩ : ByteArray),.int .i64 0,.string (⟨#[]⟩ : ByteArray)]) ?_ 0 _ rfl; (with_reducible repeat (first | refine blk_drewN ?_ _ | refine blk_drew ?_ | refine blk_alloc ?_ _)); refine blk_far ?_ NB388_387.out _; (with_reducible repeat (first | refine blk_drewN ?_ _ | refine blk_drew ?_ | refine blk_alloc ?_ _)); refine blk_far ?_ NB388_387.out _; (with_reducible repeat (first | refine blk_drewN ?_ _ | refine blk_drew ?_ | refine blk_alloc ?_ _)); exact BK388.out) k_ hk⟩)); (case aO => exact (by (with_reducible repeat (first | apply Kd.R_alloc | apply Kd.R_drewN | apply Kd.R_drew)); exact Kd.R_mono (Kd.R_far (p:=⟨gb388,2,none⟩) (Kd.R_far (p:=⟨gb388,1,none⟩) (Kd.R_far (p:=⟨gb388,0,none⟩) (Kd.R_far (p:=⟨gb387,1,none⟩) (Kd.R_far (p:=⟨gb387,0,none⟩) (Kd.R_mono (Kd.R_types HO385.out BK387.out (by decide)) (fun k_ hk => (⟨hk,hk.1.2⟩ : _ ∧ k_ ≠ gb388))) (fun _ hk => hk.1.2) (.slice Ao69 t383.length co69)) (fun _ hk => hk.1.2) (.int .i64 t386)) (fun _ hk => hk.2) (.string a1)) (fun _ hk => hk.2) (.int .i64 a0_1)) (fun _ hk => hk.2) (.string a2)) (fun _ hk => ⟨hk.1.1.1,hk.1.1.2⟩))); (case aS => exact (below_size bA)); (case aL => have := LMc63.out; omega); intro v391 w82 ho hb hg hat; rw [← Ny390.out] at ho; replace HO_368000 := Aside0.mk (Kd.V_afterv (ok := (fun k_ => (P0_0_ k_ ∨ w.heap.size ≤ k_) ∧ k_ ≠ gb367 ∧ k_ ≠ gb368 ∧ k_ ≠ gb387 ∧ k_ ≠ gb388)) (by (with_reducible repeat (first | apply Kd.V_alloc | apply Kd.V_drewN | apply Kd.V_drew)); exact Kd.V_mono (Kd.V_far (p:=⟨gb388,2,none⟩) (Kd.V_far (p:=⟨gb388,1,none⟩) (Kd.V_far (p:=⟨gb388,0,none⟩) (Kd.V_far (p:=⟨gb387,1,none⟩) (Kd.V_far (p:=⟨gb387,0,none⟩) (Kd.V_mono (Kd.V_mono HO_368000.out (fun k_ hk => (⟨hk,hk.2.2.2.2.1⟩ : _ ∧ k_ ≠ gb387))) (fun k_ hk => (⟨hk,hk.1.2.2.2.2.2⟩ : _ ∧ k_ ≠ gb388))) (fun _ hk => hk.1.2) (.slice Ao69 t383.length co69)) (fun _ hk => hk.1.2) (.int .i64 t386)) (fun _ hk => hk.2) (.string a1)) (fun _ hk => hk.2) (.int .i64 a0_1)) (fun _ hk => hk.2) (.string a2)) (fun _ hk => ⟨⟨hk.1.1.1,⟨hk.1.1.2.2.1,⟨hk.1.1.2.2.2.1,⟨hk.1.1.2.2.2.2.1,hk.1.1.2.2.2.2.2⟩⟩⟩⟩,hk.1.1.2.1⟩)) hg hat); replace BK367 := Aside0.mk (bh BK367.out hg (Kd.R_ne HO385.out BK367.out (by decide))); replace BK368 := Aside0.mk (bh BK368.out hg (Kd.R_ne HO385.out BK368.out (by decide))); replace BK387 := Aside0.mk (blk_grown (g:=gb387) (o:=.cells #[.slice Ao69 t383.length co69,.int .i64 t386] 25 (0,0)) (by (with_reducible repeat (first | refine blk_drewN ?_ _ | refine blk_drew ?_ | refine blk_alloc ?_ _)); refine blk_far ?_ NB387_388.out _; (with_reducible repeat (first | refine blk_drewN ?_ _ | refine blk_drew ?_ | refine blk_alloc ?_ _)); refine blk_far ?_ NB387_388.out _; (with_reducible repeat (first | refine blk_drewN ?_ _ | refine blk_drew ?_ | refine blk_alloc ?_ _)); refine blk_far ?_ NB387_388.out _; (with_reducible repeat (first | refine blk_drewN ?_ _ | refine blk_drew ?_ | refine blk_alloc ?_ _)); apply blkp2; (with_reducible repeat (first | refine blk_drewN ?_ _ | refine blk_drew ?_ | refine blk_alloc ?_ _)); exact BK387.out) hg (Kd.R_ne HO385.out BK387.out (by decide))); replace BK388 := Aside0.mk (blk_grown (g:=gb388) (o:=.cells #[.string a1,.int .i64 a0_1,.string a2] 32 (0,0)) (by (with_reducible repeat (first | refine blk_drewN ?_ _ | refine blk_drew ?_ | refine blk_alloc ?_ _)); refine blk_put (cs := #[.string a1,.int .i64 a0_1,.string (⟨#[]⟩ : ByteArray)]) ?_ 2 _ rfl; (with_reducible repeat (first | refine blk_drewN ?_ _ | refine blk_drew ?_ | refine blk_alloc ?_ _)); refine blk_put (cs := #[.string a1,.int .i64 0,.string (⟨#[]⟩ : ByteArray)]) ?_ 1 _ rfl; (with_reducible repeat (first | refine blk_drewN ?_ _ | refine blk_drew ?_ | refine blk_alloc ?_ _)); refine blk_put (cs := #[.string (⟨#[]⟩ : ByteArray),.int .i64 0,.string (⟨#[]⟩ : ByteArray)]) ?_ 0 _ rfl; (with_reducible repeat (first | refine blk_drewN ?_ _ | refine blk_drew ?_ | refine blk_alloc ?_ _)); refine blk_far ?_ NB388_387.out _; (with_reducible repeat (first | refine blk_drewN ?_ _ | refine blk_drew ?_ | refine blk_alloc ?_ _)); refine blk_far ?_ NB388_387.out _; (with_reducible repeat (first | refine blk_drewN ?_ _ | refine blk_drew ?_ | refine blk_alloc ?_ _)); exact BK388.out) hg (Kd.R_away HO385.out (fun _ hk => hk.2))); replace HB := Aside0.mk (hb); have HO392 := Aside0.mk (ho); clear HO385; clear ho hb hg hat; obtain ⟨Ao83,co83,eo83⟩ := Kd.R_slice HO392.out; subst eo83; obtain ⟨hcz84_0,hcz84_1⟩ := cl2 BK387.out; obtain ⟨hfz84_0,hfz84_1⟩ := fz2 BK387.out))
      have n0_ : Aside0 (Kd.V k32 32 ((w82.setCell ⟨gb387,0,none⟩ (.slice Ao83 y390.length co83)).setCell ⟨gb387,1,none⟩ (.int .i64 (wrap64 (t386 + 1)))) w.heap.size (fun k_ => (P0_0_ k_ ∨ w.heap.size ≤ k_) ∧ some k_ ≠ (.slice Ao83 y390.length co83 : Value).ownBlock ∧ k_ ≠ gb367 ∧ k_ ≠ gb368 ∧ k_ ≠ gb387 ∧ k_ ≠ gb388) (.slice A0_0 l0_0.length c0_0) l0_0) := ⟨by (with_reducible repeat (first | apply Kd.V_alloc | apply Kd.V_drewN | apply Kd.V_drew)); exact Kd.V_mono (Kd.V_far (p:=⟨gb387,1,none⟩) (Kd.V_far (p:=⟨gb387,0,none⟩) (Kd.V_mono HO_368000.out (fun k_ hk => (⟨hk,hk.1.2.2.2.1⟩ : _ ∧ k_ ≠ gb387))) (fun _ hk => hk.2) (.slice Ao83 y390.length co83)) (fun _ hk => hk.2) (.int .i64 (wrap64 (t386 + 1)))) (fun _ hk => ⟨hk.1.1.1,⟨hk.1.2,⟨hk.1.1.2.1,⟨hk.1.1.2.2.1,⟨hk.1.1.2.2.2.1,hk.1.1.2.2.2.2⟩⟩⟩⟩⟩)⟩
      have n1_ : Aside0 (Kd.R k32 32 ((w82.setCell ⟨gb387,0,none⟩ (.slice Ao83 y390.length co83)).setCell ⟨gb387,1,none⟩ (.int .i64 (wrap64 (t386 + 1)))) w.heap.size (fun k_ => (w.heap.size ≤ k_) ∧ k_ ≠ gb388) (.slice Ao83 y390.length co83) y390) := ⟨by (with_reducible repeat (first | apply Kd.R_alloc | apply Kd.R_drewN | apply Kd.R_drew)); exact Kd.R_mono (Kd.R_far (p:=⟨gb387,1,none⟩) (Kd.R_far (p:=⟨gb387,0,none⟩) (Kd.R_types HO392.out BK387.out (by decide)) (fun _ hk => hk.2) (.slice Ao83 y390.length co83)) (fun _ hk => hk.2) (.int .i64 (wrap64 (t386 + 1)))) (fun _ hk => ⟨hk.1.1,hk.1.2⟩)⟩
      have n2_ : Aside0 (((w82.setCell ⟨gb387,0,none⟩ (.slice Ao83 y390.length co83)).setCell ⟨gb387,1,none⟩ (.int .i64 (wrap64 (t386 + 1)))).heap[gb367]? = some (.cells #[.slice A0_0 l0_0.length c0_0,.int .i64 a0_1] 25 (0,0))) := ⟨kF BK367.out⟩
      have n3_ : Aside0 (((w82.setCell ⟨gb387,0,none⟩ (.slice Ao83 y390.length co83)).setCell ⟨gb387,1,none⟩ (.int .i64 (wrap64 (t386 + 1)))).heap[gb368]? = some (.cells #[.slice none 0 0,.int .i64 0] 25 (0,0))) := ⟨kF BK368.out⟩
      have n4_ : Aside0 (((w82.setCell ⟨gb387,0,none⟩ (.slice Ao83 y390.length co83)).setCell ⟨gb387,1,none⟩ (.int .i64 (wrap64 (t386 + 1)))).heap[gb387]? = some (.cells #[.slice Ao83 y390.length co83,.int .i64 (wrap64 (t386 + 1))] 25 (0,0))) := ⟨by (with_reducible repeat (first | refine blk_drewN ?_ _ | refine blk_drew ?_ | refine blk_alloc ?_ _)); apply blkp2; (with_reducible repeat (first | refine blk_drewN ?_ _ | refine blk_drew ?_ | refine blk_alloc ?_ _)); exact BK387.out⟩
      have n5_ : Aside0 (((w82.setCell ⟨gb387,0,none⟩ (.slice Ao83 y390.length co83)).setCell ⟨gb387,1,none⟩ (.int .i64 (wrap64 (t386 + 1)))).heap[gb388]? = some (.cells #[.string a1,.int .i64 a0_1,.string a2] 32 (0,0))) := ⟨kF BK388.out⟩
      have n6_ : Aside0 (Below w.heap.size w ((w82.setCell ⟨gb387,0,none⟩ (.slice Ao83 y390.length co83)).setCell ⟨gb387,1,none⟩ (.int .i64 (wrap64 (t386 + 1))))) := ⟨bA⟩
      (try clear HO_368000)
      (try clear HO392)
      (try clear BK367)
      (try clear BK368)
      (try clear BK387)
      (try clear BK388)
      (try clear HB)
      generalize ((w82.setCell ⟨gb387,0,none⟩ (.slice Ao83 y390.length co83)).setCell ⟨gb387,1,none⟩ (.int .i64 (wrap64 (t386 + 1)))) = w85 at n0_ n1_ n2_ n3_ n4_ n5_ n6_ ⊢
      have HO_368000 := n0_
      have HO392 := n1_
      have BK367 := n2_
      have BK368 := n3_
      have BK387 := n4_
      have BK388 := n5_
      have HB := n6_
      clear n0_ n1_ n2_ n3_ n4_ n5_ n6_
      replace HO_368000 := Aside0.mk (Kd.V_drew HO_368000.out)
      replace HO392 := Aside0.mk (Kd.R_drew HO392.out)
      replace BK367 := Aside0.mk (blk_drew BK367.out)
      replace BK368 := Aside0.mk (blk_drew BK368.out)
      replace BK387 := Aside0.mk (blk_drew BK387.out)
      replace BK388 := Aside0.mk (blk_drew BK388.out)
      replace HB := Aside0.mk (below_drew1 HB.out)
      refine start_ (n:=6) (S:=fun w' => w'.cell? ⟨gb387,0,none⟩ = some (.slice Ao83 y390.length co83) ∧ w'.cell? ⟨gb387,1,none⟩ = some (.int .i64 (wrap64 (t386 + 1))) ∧ w'.cell? ⟨gb367,0,none⟩ = some (.slice A0_0 l0_0.length c0_0) ∧ w'.cell? ⟨gb367,1,none⟩ = some (.int .i64 a0_1)) (ds := []) (bm 6 0) (by kernel_rfl) rfl rfl ⟨bl BK387 0,bl BK387 1,bl BK367 0,bl BK367 1⟩ (fun hHeld => ?_)
      generalize w85.drew = w86 at HO_368000 HO392 BK367 BK368 BK387 BK388 HB hHeld ⊢
      refine pure_ (i:=1) (N:=some 71) (v:=?_) (a':=?_) (bm 6 2) rfl rfl (by kernel_rfl) (fun _ _ _ h => h) (Or.inl ⟨by rfl,?_⟩) ?_ ?_
      rotate_left
      ·intro w'
       go_simp
       with_reducible rfl
      rotate_left
      ·simp only [Act.put,setIfInBounds_toArray,set_cons_zero,set_cons_succ,i64_w,i32_w]
       rfl
      refine take_ (i:=0) (N:=some 70) (v:=?_) (a':=?_) (bm 6 3) rfl rfl (by kernel_rfl) (fun _ _ _ h => h) (Or.inl ⟨by rfl,?_⟩) hHeld ?_ ?_
      rotate_left
      ·rintro w' ⟨s0,s1,s2,s3⟩
       go_simp
       with_reducible rfl
      rotate_left
      ·simp only [Act.put,setIfInBounds_toArray,set_cons_zero,set_cons_succ,i64_w,i32_w]
       rfl
      refine take_ (i:=2) (N:=some 72) (v:=?_) (a':=?_) (bm 6 7) rfl rfl (by kernel_rfl) (fun _ _ _ h => h) (Or.inl ⟨by rfl,?_⟩) hHeld ?_ ?_
      rotate_left
      ·rintro w' ⟨s0,s1,s2,s3⟩
       go_simp
       with_reducible rfl
      rotate_left
      ·simp only [Act.put,setIfInBounds_toArray,set_cons_zero,set_cons_succ,i64_w,i32_w]
       rfl
      refine one_ (i:=3) (N:=none) (bm 6 15) rfl rfl (by kernel_rfl) (by decide) (fun K hK => ?_)
      have hs87 : w86.cell? ⟨gb368,0,none⟩ = some (.slice none 0 0) := bl BK368 0
      have hfs87 := blk_frozen BK368.out 0
      have hns87_0 := NB367_368.out
      have hns87_2 := NB387_368.out
      have hns87_3 := NB388_368.out
      have hms87_0 := NB368_367.out
      have hms87_2 := NB368_387.out
      have hms87_3 := NB368_388.out
      have hs88 : w86.cell? ⟨gb368,1,none⟩ = some (.int .i64 0) := bl BK368 1
      have hfs88 := blk_frozen BK368.out 1
      have hns88_0 := NB367_368.out
      have hns88_2 := NB387_368.out
      have hns88_3 := NB388_368.out
      have hms88_0 := NB368_367.out
      have hms88_2 := NB368_387.out
      have hms88_3 := NB368_388.out
      refine skip_ (w1 := ?_) (by rfl) rfl ?_ ?_
      rotate_left
      ·go_simp
       rfl
      refine hK.out _ _ ⟨((cell_far (p:=⟨gb368,_,none⟩) NB387_368.out _).trans (((cell_far (p:=⟨gb368,_,none⟩) NB387_368.out _).trans (hHeld.1)))),((cell_far (p:=⟨gb368,_,none⟩) NB387_368.out _).trans (((cell_far (p:=⟨gb368,_,none⟩) NB387_368.out _).trans (hHeld.2.1)))),((cell_far (p:=⟨gb368,_,none⟩) NB367_368.out _).trans (((cell_far (p:=⟨gb368,_,none⟩) NB367_368.out _).trans (hHeld.2.2.1)))),((cell_far (p:=⟨gb368,_,none⟩) NB367_368.out _).trans (((cell_far (p:=⟨gb368,_,none⟩) NB367_368.out _).trans (hHeld.2.2.2))))⟩ (fun hHeld => ?_)
      clear hK K
      refine pure_ (i:=4) (N:=some 7) (v:=?_) (a':=?_) (bm 6 31) rfl rfl (by kernel_rfl) (fun _ _ _ h => h) (Or.inl ⟨by rfl,?_⟩) ?_ ?_
      rotate_left
      ·intro w'
       go_simp
       with_reducible rfl
      rotate_left
      ·simp only [Act.put,setIfInBounds_toArray,set_cons_zero,set_cons_succ,i64_w,i32_w]
       rfl
      refine pure_ (i:=5) (N:=some 8) (v:=?_) (a':=?_) (bm 6 63) rfl rfl (by kernel_rfl) (fun _ _ _ h => h) (Or.inl ⟨by rfl,?_⟩) ?_ ?_
      rotate_left
      ·intro w'
       go_simp
       with_reducible rfl
      rotate_left
      ·simp only [Act.put,setIfInBounds_toArray,set_cons_zero,set_cons_succ,i64_w,i32_w]
       rfl
      refine done_ (by kernel_rfl) ?_
      try go_wp2
      refine bodyPost_ret (results_ctt rfl _ _ gb368 25 #[.slice Ao83 y390.length co83,.int .i64 (wrap64 (t386 + 1))] (0,0) _ rfl (kP2 BK368.out) Try.underlying25 rfl (by kernel_rfl)) rfl ?_
      exact ⟨_,by first | rfl | (simp only [i64_w,i32_w] <;> rfl) | (simp [errW_none,errW_some] <;> rfl) | (simp [*,errW_none,errW_some] <;> rfl),Kd.V_mono (Kd.R_V (by (with_reducible repeat (first | apply Kd.R_alloc | apply Kd.R_drewN | apply Kd.R_drew)); exact Kd.R_mono (Kd.R_far (p:=⟨gb368,1,none⟩) (Kd.R_far (p:=⟨gb368,0,none⟩) (Kd.R_types HO392.out BK368.out (by decide)) (fun _ hk => hk.2) (.slice Ao83 y390.length co83)) (fun _ hk => hk.2) (.int .i64 (wrap64 (t386 + 1)))) (fun _ hk => hk.1.1))) (fun k_ hk => by first | exact ⟨(.inr (hk.1)),hk.2⟩ | exact (.inr (hk))),bA⟩
     ·rw [if_neg c63] at H
      exact absurd H (by simp)
   ·rw [if_neg c31] at H
    have c31b0 : (x11_4 == 0) = false := beq_eq_false_iff_ne.mpr c31
    have c31b1 : (x11_4 != 0) = true := bne_iff_ne.mpr c31
    simp only [Option.some.injEq,Prod.mk.injEq] at H
    obtain ⟨rfl,rfl,rfl,rfl⟩ := H
    have hnb89 := NB367_368.out
    have hnc89 := NB368_367.out
    obtain ⟨hcz90_0,hcz90_1⟩ := cl2 BK367.out
    obtain ⟨hfz90_0,hfz90_1⟩ := fz2 BK367.out
    obtain ⟨hcz91_0,hcz91_1⟩ := cl2 BK368.out
    obtain ⟨hfz91_0,hfz91_1⟩ := fz2 BK368.out
    go_wp2
    refine bodyPost_ret (results_ctt rfl _ _ gb368 25 #[.slice A0_0 l0_0.length c0_0,.int .i64 a0_1] (0,0) _ rfl (kP2 BK368.out) Try.underlying25 rfl (by kernel_rfl)) rfl ?_
    exact ⟨_,by first | rfl | (simp only [i64_w,i32_w] <;> rfl) | (simp [errW_none,errW_some] <;> rfl) | (simp [*,errW_none,errW_some] <;> rfl),by (with_reducible repeat (first | apply Kd.V_alloc | apply Kd.V_drewN | apply Kd.V_drew)); exact Kd.V_mono (Kd.V_far (p:=⟨gb368,1,none⟩) (Kd.V_far (p:=⟨gb368,0,none⟩) (Kd.V_mono HO_368000.out (fun k_ hk => (⟨hk,hk.2.2⟩ : _ ∧ k_ ≠ gb368))) (fun _ hk => hk.2) (.slice A0_0 l0_0.length c0_0)) (fun _ hk => hk.2) (.int .i64 a0_1)) (fun _ hk => hk.1.1),bA⟩

end Go.Proofs.Ytgkfemnfbkgeiaa.XFnStore
