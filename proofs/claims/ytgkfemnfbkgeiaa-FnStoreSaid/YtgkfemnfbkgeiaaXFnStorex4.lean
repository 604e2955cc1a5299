-- Printed by this session's own program wip/tools/xprint.py, which widens the kit's print. Not trusted: Lean checks it.
import Derived.Test.YtgkfemnfbkgeiaaXFnStorex0
import Derived.Test.YtgkfemnfbkgeiaaXFnStorex2
import Derived.Test.YtgkfemnfbkgeiaaXFnStorex3
namespace Go.Proofs.Ytgkfemnfbkgeiaa.XFnStore
open List (setIfInBounds_toArray set_cons_zero set_cons_succ)
open Go.RowKit Go.Proofs.YtgkfemnfbkgeiaaW.PrintWords Go.Proofs.YtgkfemnfbkgeiaaW.PrintLast Go.Proofs.YtgkfemnfbkgeiaaW.PrintMore
attribute [local go_sem] max2_int min2_int max_two min_two max_three min_three max_four min_four   -- for this text's walks alone
set_option linter.unusedVariables false
set_option linter.unusedSimpArgs false

/-! ### spec_l01Absent: function 38 -/
def spec_l01Absent.f (k : Nat) (l0_0 : List (S32)) (a0_1 : Int) (a1 : ByteArray) (a2 : ByteArray) : Option ((List (S32)) × Int × Int) := (spec_l01Find.f k l0_0 a0_1 a1).bind fun t202 => (if t202 ≥ 0 then (some (l0_0,a0_1,9)) else ((spec_l01Room.f k l0_0 a0_1 a1 a2).bind fun t203 => (if t203 = 0 then ((spec_l01Set.f k l0_0 a0_1 a1 a2).bind fun bt204 => (some (bt204.1,bt204.2,0))) else (some (l0_0,a0_1,t203)))))
theorem spec_l01Absent.mono : ∀ a0 a1 a2 a3 k,LeO (spec_l01Absent.f k a0 a1 a2 a3) (spec_l01Absent.f (k + 1) a0 a1 a2 a3) := by
 intro a0 a1 a2 a3 k
 unfold spec_l01Absent.f
 repeat' first
 | (with_reducible first | exact spec_l01Find.mono .. | exact spec_l01Room.mono .. | exact spec_l01Set.mono .. | exact LeO.refl _ | exact LeO.none _ | refine LeO.ite ?_ ?_ | refine LeO.bind ?_ (fun _ => ?_))
 | exact LeO.none _ | refine LeO.ite ?_ ?_ | refine LeO.bind ?_ (fun _ => ?_)
set_option maxHeartbeats 8000000 in
set_option maxRecDepth 100000 in
theorem spec_l01Absent.calls (k : Nat) (P0_0_ : Nat → Prop) (A0_0 : Option Addr) (c0_0 : Nat) (l0_0 : List (S32)) (a0_1 : Int) (a1 : ByteArray) (a2 : ByteArray) (r1 : List (S32)) (r2 : Int) (r3 : Int) (w : World) (hs0_0 : Kd.V k32 32 w w.heap.size (fun k_ => P0_0_ k_) (.slice A0_0 l0_0.length c0_0) l0_0) (h : spec_l01Absent.f k l0_0 a0_1 a1 a2 = some (r1,r2,r3)) :
  Calls Try.prog 38 #[.agg #[.slice A0_0 l0_0.length c0_0,.int .i64 a0_1],.string a1,.string a2] w fun e w' => ∃ v0_ : Value,e = .returned (.tuple #[.agg #[v0_,.int .i64 r2],.int .i64 r3]) ∧ Kd.V k32 32 w' w.heap.size (fun k_ => (P0_0_ k_ ∨ w.heap.size ≤ k_)) v0_ r1 ∧ Below w.heap.size w w' := by
 have hu25 := Try.underlying25
 have HO0_0 := Aside0.mk (show Kd.V k32 32 w w.heap.size (fun k_ => (P0_0_ k_ ∨ w.heap.size ≤ k_)) (.slice A0_0 l0_0.length c0_0) l0_0 from Kd.V_mono hs0_0 (fun k_ hk => .inl hk))
 have HB := Aside0.mk (Below.refl w.heap.size w)
 have H : ((spec_l01Find.f k l0_0 a0_1 a1).bind fun t202 => (if t202 ≥ 0 then (some (l0_0,a0_1,9)) else ((spec_l01Room.f k l0_0 a0_1 a1 a2).bind fun t203 => (if t203 = 0 then ((spec_l01Set.f k l0_0 a0_1 a1 a2).bind fun bt204 => (some (bt204.1,bt204.2,0))) else (some (l0_0,a0_1,t203)))))) = some (r1,r2,r3) := h
 clear h
 replace H := Option.bind_eq_some_iff.mp H
 obtain ⟨t202,A40,H⟩ := H
 try dsimp only at H
 have A4 := Aside0.mk A40
 clear A40
 by_cases c5 : t202 ≥ 0
 ·rw [if_pos c5] at H
  have c5b0 : decide (0 ≤ t202) = true := decide_eq_true c5
  clear c5
  simp only [Option.some.injEq,Prod.mk.injEq] at H
  obtain ⟨rfl,rfl,rfl⟩ := H
  go_enter Try.func38,Try.ntmps38
  go_wp2_with (first | ((with_reducible refine gate_dst (N:=3) rfl ?_); refine bxe (N:=3) (cs := #[.slice A0_0 l0_0.length c0_0,.int .i64 a0_1]) (t:=25) ?_; intro gb200 hg w6 hbox hb; replace HO0_0 := Aside0.mk (Kd.V_below (Kd.V_elderB (vA HO0_0.out) gb200 (Nat.le_of_eq hg.symm)) hb); have BK200 := Aside0.mk (hbox); have GW200 := Aside0.mk ((gw hg : w.heap.size ≤ gb200)); have GE200 := GW200; replace HB := bsA hb; clear hb hbox hg) | ((with_reducible refine gate_dst (N:=6) rfl ?_); refine bxe (N:=6) (cs := #[.slice none 0 0,.int .i64 0]) (t:=25) ?_; intro gb201 hg w7 hbox hb; replace HO0_0 := Aside0.mk (Kd.V_below (Kd.V_elderB (vA HO0_0.out) gb201 (Nat.le_of_eq hg.symm)) hb); have BK201 := Aside0.mk (hbox); have GW201 := Aside0.mk ((gw hg : w.heap.size ≤ gb201)); have GE201 := GW201; replace HB := bsA hb; have NB200_201 := Aside0.mk ((nl hg BK200.out)); have NB201_200 := Aside0.mk ((ng hg BK200.out)); replace BK200 := bbA BK200 hb; clear hb hbox hg; have hnb8 := NB200_201.out; have hnc8 := NB201_200.out; obtain ⟨hcz9_0,hcz9_1⟩ := cl2 BK200.out; obtain ⟨hfz9_0,hfz9_1⟩ := fz2 BK200.out) | ((with_reducible refine gate_callee (f:=59) rfl ?_); refine goesL_ (some 11) rfl rfl Try.func59 (by kernel_rfl) rfl #[.agg #[.slice A0_0 l0_0.length c0_0,.int .i64 a0_1],.string a1] rfl mA ?_; (with_reducible refine (spec_l01Find.calls k _ _ l0_0 a0_1 a1 t202 _ ?side1 ?side2 A4.out).mono ?_); (case side1 => repeat (first | exact (Kd.V_reads' HO0_0.out).2.2 | (with_reducible refine Kd.C_alloc ?_ _) | (with_reducible refine Kd.C_drewN ?_ _) | (with_reducible refine Kd.C_drew ?_))); (case side2 => exact (Kd.V_reads' HO0_0.out).2.1); rintro e w10 ⟨rfl,hb⟩; refine ⟨_,rfl,?_⟩; replace HO0_0 := Aside0.mk (Kd.V_below (vA HO0_0.out) hb); replace BK200 := bbA BK200 hb; replace BK201 := bbA BK201 hb; replace HB := bsA hb; clear hb; obtain ⟨hcz11_0,hcz11_1⟩ := cl2 BK200.out; obtain ⟨hfz11_0,hfz11_1⟩ := fz2 BK200.out; obtain ⟨hcz12_0,hcz12_1⟩ := cl2 BK201.out; obtain ⟨hfz12_0,hfz12_1⟩ := fz2 BK201.out))
  refine bodyPost_ret (results_ct rfl _ _ gb201 25 #[.slice A0_0 l0_0.length c0_0,.int .i64 a0_1] (0,0) _ rfl (kP2 BK201.out) Try.underlying25 rfl (by kernel_rfl)) rfl ?_
  exact ⟨_,by first | rfl | (simp [errW_none,errW_some] <;> rfl) | (simp [*,errW_none,errW_some] <;> rfl),by (with_reducible repeat (first | apply Kd.V_alloc | apply Kd.V_drewN | apply Kd.V_drew)); exact Kd.V_mono (Kd.V_far (p:=⟨gb201,1,none⟩) (Kd.V_far (p:=⟨gb201,0,none⟩) (Kd.V_mono HO0_0.out (fun k_ hk => (⟨hk,hk.2⟩ : _ ∧ k_ ≠ gb201))) (fun _ hk => hk.2) (.slice A0_0 l0_0.length c0_0)) (fun _ hk => hk.2) (.int .i64 a0_1)) (fun _ hk => hk.1.1.1),bA⟩
 ·rw [if_neg c5] at H
  have c5b0 : decide (0 ≤ t202) = false := decide_eq_false c5
  clear c5
  replace H := Option.bind_eq_some_iff.mp H
  obtain ⟨t203,A130,H⟩ := H
  try dsimp only at H
  have A13 := Aside0.mk A130
  clear A130
  by_cases c14 : t203 = 0
  ·rw [if_pos c14] at H
   have c14b0 : (t203 == 0) = true := beq_iff_eq.mpr c14
   have c14b1 : (t203 != 0) = false := bne_eq_false_iff_eq.mpr c14
   clear c14
   replace H := Option.bind_eq_some_iff.mp H
   obtain ⟨⟨t204,t207⟩,A150,H⟩ := H
   try dsimp only at H
   have A15 := Aside0.mk A150
   clear A150
   simp only [Option.some.injEq,Prod.mk.injEq] at H
   obtain ⟨rfl,rfl,rfl⟩ := H
   go_enter Try.func38,Try.ntmps38
   go_wp2_with (first | ((with_reducible refine gate_dst (N:=3) rfl ?_); refine bxe (N:=3) (cs := #[.slice A0_0 l0_0.length c0_0,.int .i64 a0_1]) (t:=25) ?_; intro gb200 hg w16 hbox hb; replace HO0_0 := Aside0.mk (Kd.V_below (Kd.V_elderB (vA HO0_0.out) gb200 (Nat.le_of_eq hg.symm)) hb); have BK200 := Aside0.mk (hbox); have GW200 := Aside0.mk ((gw hg : w.heap.size ≤ gb200)); have GE200 := GW200; replace HB := bsA hb; clear hb hbox hg) | ((with_reducible refine gate_dst (N:=6) rfl ?_); refine bxe (N:=6) (cs := #[.slice none 0 0,.int .i64 0]) (t:=25) ?_; intro gb201 hg w17 hbox hb; replace HO0_0 := Aside0.mk (Kd.V_below (Kd.V_elderB (vA HO0_0.out) gb201 (Nat.le_of_eq hg.symm)) hb); have BK201 := Aside0.mk (hbox); have GW201 := Aside0.mk ((gw hg : w.heap.size ≤ gb201)); have GE201 := GW201; replace HB := bsA hb; have NB200_201 := Aside0.mk ((nl hg BK200.out)); have NB201_200 := Aside0.mk ((ng hg BK200.out)); replace BK200 := bbA BK200 hb; clear hb hbox hg; have hnb18 := NB200_201.out; have hnc18 := NB201_200.out; obtain ⟨hcz19_0,hcz19_1⟩ := cl2 BK200.out; obtain ⟨hfz19_0,hfz19_1⟩ := fz2 BK200.out) | ((with_reducible refine gate_callee (f:=59) rfl ?_); refine goesL_ (some 11) rfl rfl Try.func59 (by kernel_rfl) rfl #[.agg #[.slice A0_0 l0_0.length c0_0,.int .i64 a0_1],.string a1] rfl mA ?_; (with_reducible refine (spec_l01Find.calls k _ _ l0_0 a0_1 a1 t202 _ ?side1 ?side2 A4.out).mono ?_); (case side1 => repeat (first | exact (Kd.V_reads' HO0_0.out).2.2 | (with_reducible refine Kd.C_alloc ?_ _) | (with_reducible refine Kd.C_drewN ?_ _) | (with_reducible refine Kd.C_drew ?_))); (case side2 => exact (Kd.V_reads' HO0_0.out).2.1); rintro e w20 ⟨rfl,hb⟩; refine ⟨_,rfl,?_⟩; replace HO0_0 := Aside0.mk (Kd.V_below (vA HO0_0.out) hb); replace BK200 := bbA BK200 hb; replace BK201 := bbA BK201 hb; replace HB := bsA hb; clear hb; obtain ⟨hcz21_0,hcz21_1⟩ := cl2 BK200.out; obtain ⟨hfz21_0,hfz21_1⟩ := fz2 BK200.out) | ((with_reducible refine gate_callee (f:=60) rfl ?_); refine goesL_ (some 17) rfl rfl Try.func60 (by kernel_rfl) rfl #[.agg #[.slice A0_0 l0_0.length c0_0,.int .i64 a0_1],.string a1,.string a2] rfl mA ?_; (with_reducible refine (spec_l01Room.calls k _ _ l0_0 a0_1 a1 a2 t203 _ ?side1 ?side2 A13.out).mono ?_); (case side1 => repeat (first | exact (Kd.V_reads' HO0_0.out).2.2 | (with_reducible refine Kd.C_alloc ?_ _) | (with_reducible refine Kd.C_drewN ?_ _) | (with_reducible refine Kd.C_drew ?_))); (case side2 => exact (Kd.V_reads' HO0_0.out).2.1); rintro e w22 ⟨rfl,hb⟩; refine ⟨_,rfl,?_⟩; replace HO0_0 := Aside0.mk (Kd.V_below (vA HO0_0.out) hb); replace BK200 := bbA BK200 hb; replace BK201 := bbA BK201 hb; replace HB := bsA hb; clear hb; obtain ⟨hcz23_0,hcz23_1⟩ := cl2 BK200.out; obtain ⟨hfz23_0,hfz23_1⟩ := fz2 BK200.out) | ((with_reducible refine gate_callee (f:=61) rfl ?_); refine goesL_ (some 25) rfl rfl Try.func61 (by kernel_rfl) rfl #[.agg #[.slice A0_0 l0_0.length c0_0,.int .i64 a0_1],.string a1,.string a2] rfl mA ?_; (with_reducible refine (spec_l01Set.calls k _ _ l0_0 a0_1 a1 a2 t204 t207 _ ?side1 ?side2 A15.out).mono ?_); (case side1 => repeat (first | exact (Kd.V_reads' HO0_0.out).2.2 | (with_reducible refine Kd.C_alloc ?_ _) | (with_reducible refine Kd.C_drewN ?_ _) | (with_reducible refine Kd.C_drew ?_))); (case side2 => exact (Kd.V_reads' HO0_0.out).2.1); rintro e w24 ⟨v205,rfl,ho0,hb⟩; refine ⟨_,rfl,?_⟩; replace HO0_0 := Aside0.mk (Kd.V_elder' (vA HO0_0.out) (Kd.R_base ho0) hb); have HO206 := Aside0.mk (Kd.R_lower (Kd.R_newM (M:=fun k_ => (w.heap.size ≤ k_)) ho0 (below_size bA) (fun k_ h_ => h_)) (below_size bA)); replace BK200 := bbA BK200 hb; replace BK201 := bbA BK201 hb; replace HB := bsA hb; clear hb; (try clear ho0); obtain ⟨Ao25,co25,eo25⟩ := Kd.R_slice HO206.out; subst eo25; obtain ⟨hcz26_0,hcz26_1⟩ := cl2 BK201.out; obtain ⟨hfz26_0,hfz26_1⟩ := fz2 BK201.out))
   refine bodyPost_ret (results_ct rfl _ _ gb201 25 #[.slice Ao25 t204.length co25,.int .i64 t207] (0,0) _ rfl (kP2 BK201.out) Try.underlying25 rfl (by kernel_rfl)) rfl ?_
   exact ⟨_,by first | rfl | (simp [errW_none,errW_some] <;> rfl) | (simp [*,errW_none,errW_some] <;> rfl),Kd.V_mono (Kd.R_V (by (with_reducible repeat (first | apply Kd.R_alloc | apply Kd.R_drewN | apply Kd.R_drew)); exact Kd.R_mono (Kd.R_far (p:=⟨gb201,1,none⟩) (Kd.R_far (p:=⟨gb201,0,none⟩) (Kd.R_types HO206.out BK201.out (by decide)) (fun _ hk => hk.2) (.slice Ao25 t204.length co25)) (fun _ hk => hk.2) (.int .i64 t207)) (fun _ hk => hk.1.1))) (fun k_ hk => by first | exact ⟨(.inr (hk.1)),hk.2⟩ | exact (.inr (hk))),bA⟩
  ·rw [if_neg c14] at H
   have c14b0 : (t203 == 0) = false := beq_eq_false_iff_ne.mpr c14
   have c14b1 : (t203 != 0) = true := bne_iff_ne.mpr c14
   simp only [Option.some.injEq,Prod.mk.injEq] at H
   obtain ⟨rfl,rfl,rfl⟩ := H
   go_enter Try.func38,Try.ntmps38
   go_wp2_with (first | ((with_reducible refine gate_dst (N:=3) rfl ?_); refine bxe (N:=3) (cs := #[.slice A0_0 l0_0.length c0_0,.int .i64 a0_1]) (t:=25) ?_; intro gb200 hg w27 hbox hb; replace HO0_0 := Aside0.mk (Kd.V_below (Kd.V_elderB (vA HO0_0.out) gb200 (Nat.le_of_eq hg.symm)) hb); have BK200 := Aside0.mk (hbox); have GW200 := Aside0.mk ((gw hg : w.heap.size ≤ gb200)); have GE200 := GW200; replace HB := bsA hb; clear hb hbox hg) | ((with_reducible refine gate_dst (N:=6) rfl ?_); refine bxe (N:=6) (cs := #[.slice none 0 0,.int .i64 0]) (t:=25) ?_; intro gb201 hg w28 hbox hb; replace HO0_0 := Aside0.mk (Kd.V_below (Kd.V_elderB (vA HO0_0.out) gb201 (Nat.le_of_eq hg.symm)) hb); have BK201 := Aside0.mk (hbox); have GW201 := Aside0.mk ((gw hg : w.heap.size ≤ gb201)); have GE201 := GW201; replace HB := bsA hb; have NB200_201 := Aside0.mk ((nl hg BK200.out)); have NB201_200 := Aside0.mk ((ng hg BK200.out)); replace BK200 := bbA BK200 hb; clear hb hbox hg; have hnb29 := NB200_201.out; have hnc29 := NB201_200.out; obtain ⟨hcz30_0,hcz30_1⟩ := cl2 BK200.out; obtain ⟨hfz30_0,hfz30_1⟩ := fz2 BK200.out) | ((with_reducible refine gate_callee (f:=59) rfl ?_); refine goesL_ (some 11) rfl rfl Try.func59 (by kernel_rfl) rfl #[.agg #[.slice A0_0 l0_0.length c0_0,.int .i64 a0_1],.string a1] rfl mA ?_; (with_reducible refine (spec_l01Find.calls k _ _ l0_0 a0_1 a1 t202 _ ?side1 ?side2 A4.out).mono ?_); (case side1 => repeat (first | exact (Kd.V_reads' HO0_0.out).2.2 | (with_reducible refine Kd.C_alloc ?_ _) | (with_reducible refine Kd.C_drewN ?_ _) | (with_reducible refine Kd.C_drew ?_))); (case side2 => exact (Kd.V_reads' HO0_0.out).2.1); rintro e w31 ⟨rfl,hb⟩; refine ⟨_,rfl,?_⟩; replace HO0_0 := Aside0.mk (Kd.V_below (vA HO0_0.out) hb); replace BK200 := bbA BK200 hb; replace BK201 := bbA BK201 hb; replace HB := bsA hb; clear hb; obtain ⟨hcz32_0,hcz32_1⟩ := cl2 BK200.out; obtain ⟨hfz32_0,hfz32_1⟩ := fz2 BK200.out) | ((with_reducible refine gate_callee (f:=60) rfl ?_); refine goesL_ (some 17) rfl rfl Try.func60 (by kernel_rfl) rfl #[.agg #[.slice A0_0 l0_0.length c0_0,.int .i64 a0_1],.string a1,.string a2] rfl mA ?_; (with_reducible refine (spec_l01Room.calls k _ _ l0_0 a0_1 a1 a2 t203 _ ?side1 ?side2 A13.out).mono ?_); (case side1 => repeat (first | exact (Kd.V_reads' HO0_0.out).2.2 | (with_reducible refine Kd.C_alloc ?_ _) | (with_reducible refine Kd.C_drewN ?_ _) | (with_reducible refine Kd.C_drew ?_))); (case side2 => exact (Kd.V_reads' HO0_0.out).2.1); rintro e w33 ⟨rfl,hb⟩; refine ⟨_,rfl,?_⟩; replace HO0_0 := Aside0.mk (Kd.V_below (vA HO0_0.out) hb); replace BK200 := bbA BK200 hb; replace BK201 := bbA BK201 hb; replace HB := bsA hb; clear hb; obtain ⟨hcz34_0,hcz34_1⟩ := cl2 BK200.out; obtain ⟨hfz34_0,hfz34_1⟩ := fz2 BK200.out; obtain ⟨hcz35_0,hcz35_1⟩ := cl2 BK201.out; obtain ⟨hfz35_0,hfz35_1⟩ := fz2 BK201.out))
   refine bodyPost_ret (results_ct rfl _ _ gb201 25 #[.slice A0_0 l0_0.length c0_0,.int .i64 a0_1] (0,0) _ rfl (kP2 BK201.out) Try.underlying25 rfl (by kernel_rfl)) rfl ?_
   exact ⟨_,by first | rfl | (simp [errW_none,errW_some] <;> rfl) | (simp [*,errW_none,errW_some] <;> rfl),by (with_reducible repeat (first | apply Kd.V_alloc | apply Kd.V_drewN | apply Kd.V_drew)); exact Kd.V_mono (Kd.V_far (p:=⟨gb201,1,none⟩) (Kd.V_far (p:=⟨gb201,0,none⟩) (Kd.V_mono HO0_0.out (fun k_ hk => (⟨hk,hk.2⟩ : _ ∧ k_ ≠ gb201))) (fun _ hk => hk.2) (.slice A0_0 l0_0.length c0_0)) (fun _ hk => hk.2) (.int .i64 a0_1)) (fun _ hk => hk.1.1.1),bA⟩

/-! ### spec_l01Own: function 39 -/
def spec_l01Own.f (l0_0 : List (S32)) (a0_1 : Int) : Option ((List (S32)) × Int) := (some (([] : List (S32)) : List (S32))).bind fun y210 => (if y210.length + l0_0.length < 3518437208883 then (some ((y210 ++ l0_0),a0_1)) else (none))
set_option maxHeartbeats 8000000 in
set_option maxRecDepth 100000 in
theorem spec_l01Own.calls (A0_0 : Option Addr) (c0_0 : Nat) (l0_0 : List (S32)) (a0_1 : Int) (r1 : List (S32)) (r2 : Int) (w : World) (hr0_0 : Kd.C k32 w A0_0 l0_0.length l0_0) (hc0_0 : l0_0.length ≤ c0_0) (h : spec_l01Own.f l0_0 a0_1 = some (r1,r2)) :
  Calls Try.prog 39 #[.agg #[.slice A0_0 l0_0.length c0_0,.int .i64 a0_1]] w fun e w' => ∃ v0_ : Value,e = .returned (.agg #[v0_,.int .i64 r2]) ∧ Kd.R k32 32 w' w.heap.size (fun _ => True) v0_ r1 ∧ Below w.heap.size w w' := by
 have hu25 := Try.underlying25
 have HR0_0 := Aside0.mk hr0_0
 have HC0_0 := Aside0.mk hc0_0
 clear hr0_0 hc0_0
 have HB := Aside0.mk (Below.refl w.heap.size w)
 have H : ((some (([] : List (S32)) : List (S32))).bind fun y210 => (if y210.length + l0_0.length < 3518437208883 then (some ((y210 ++ l0_0),a0_1)) else (none))) = some (r1,r2) := h
 clear h
 obtain ⟨y210,hy210⟩ : ∃ y_ : List (S32),y_ = (([] : List (S32))) := ⟨_,rfl⟩
 replace H : (if y210.length + l0_0.length < 3518437208883 then (some ((y210 ++ l0_0),a0_1)) else (none)) = some (r1,r2) := by first | (rw [hy210]; with_reducible exact H) | (have H2_ := (Option.bind_some _ _).symm.trans H; rw [hy210]; with_reducible exact H2_) | (have H2_ := (Option.bind_some _ _).symm.trans H; with_reducible exact H2_) | with_reducible exact H | (rw [hy210]; exact H) | exact H
 have Ny210 := Aside0.mk hy210
 clear hy210
 by_cases c2 : y210.length + l0_0.length < 3518437208883
 ·rw [if_pos c2] at H
  have LMc2 := Aside0.mk c2
  clear c2
  obtain ⟨y213,hy213⟩ : ∃ y_ : List (S32),y_ = (y210 ++ l0_0) := ⟨_,rfl⟩
  replace H : (some (y213,a0_1)) = some (r1,r2) := by first | (rw [hy213]; with_reducible exact H) | (have H2_ := (Option.bind_some _ _).symm.trans H; rw [hy213]; with_reducible exact H2_) | (have H2_ := (Option.bind_some _ _).symm.trans H; with_reducible exact H2_) | with_reducible exact H | (rw [hy213]; exact H) | exact H
  have Ny213 := Aside0.mk hy213
  clear hy213
  simp only [Option.some.injEq,Prod.mk.injEq] at H
  obtain ⟨rfl,rfl⟩ := H
  go_enter Try.func39,Try.ntmps39
  go_wp2_with (first | ((with_reducible refine gate_dst (N:=1) rfl ?_); refine bxe (N:=1) (cs := #[.slice A0_0 l0_0.length c0_0,.int .i64 a0_1]) (t:=25) ?_; intro gb208 hg w3 hbox hb; have BK208 := Aside0.mk (hbox); have GW208 := Aside0.mk ((gw hg : w.heap.size ≤ gb208)); have GE208 := GW208; replace HB := bsA hb; clear hb hbox hg) | ((with_reducible refine gate_dst (N:=2) rfl ?_); refine bxe (N:=2) (cs := #[.slice none 0 0,.int .i64 0]) (t:=25) ?_; intro gb209 hg w4 hbox hb; have BK209 := Aside0.mk (hbox); have GW209 := Aside0.mk ((gw hg : w.heap.size ≤ gb209)); have GE209 := GW209; replace HB := bsA hb; have NB208_209 := Aside0.mk ((nl hg BK208.out)); have NB209_208 := Aside0.mk ((ng hg BK208.out)); replace BK208 := bbA BK208 hb; clear hb hbox hg) | ((with_reducible refine gate_dst (N:=3) rfl ?_); refine Kd.R_lit k32 _ 32 ?hg (N:=3) ?hd (xs := ([] : List (S32))) (inner := []) (ok := fun _ => True) (okp := fun _ => True) ?hr ?hp (fun _ hk => hk) trivial (Below.refl _ _) (Nat.le_refl _) (by simp) ?_; (case hd => rfl); (case hg => rfl); (case hr => first | (go_simp; done) | (go_simp; rfl)); (case hp => exact (Reps.none _ _)); intro v211 w5 ho6 hb hg_ hnew_; clear hg_ hnew_; (first | rw [← Ny210.out] at ho6 | (simp only [Int.reduceToNat] at ho6; rw [← Ny210.out] at ho6)); have HO212 := Aside0.mk (Kd.R_lower ho6 (below_size bA)); replace BK208 := bbA BK208 hb; replace BK209 := bbA BK209 hb; replace HB := bsA hb; clear hb ho6; have hnb7 := NB208_209.out; have hnc7 := NB209_208.out; obtain ⟨hcz8_0,hcz8_1⟩ := cl2 BK208.out; obtain ⟨hfz8_0,hfz8_1⟩ := fz2 BK208.out) | ((with_reducible refine gate_builtin (b:=.append) (xs := #[.tmp 3,.tmp 5]) rfl ?_); at_builtin; refine Kd.R_append_rows k32 (w0 := w) w.heap.size rfl (.tmp 3) (.tmp 5) 23 32 (.agg #[(.string ⟨#[]⟩),(.int .i64 0),(.string ⟨#[]⟩)]) 40 rfl Try.underlying23 info32 rfl (by decide) (by omega) v211 y210 l0_0 _ _ _ (fun _ => True) (fun _ => False) rfl rfl ?aO ?aR (fun _ _ h => h) (fun _ h => h.elim) ?aF ?aB ?aS ?aL ?_; (case aR => exact sC HR0_0.out); (case aB => exact bA); (case aF => exact (fun _ _ => trivial)); (case aO => exact (rA HO212.out)); (case aS => exact (below_size bA)); (case aL => have := LMc2.out; omega); intro v214 w9 ho hb hg hat; rw [← Ny213.out] at ho; replace BK208 := Aside0.mk (bg BK208.out hg (Kd.R_ne HO212.out BK208.out (by decide))); replace BK209 := Aside0.mk (bg BK209.out hg (Kd.R_ne HO212.out BK209.out (by decide))); replace HB := Aside0.mk (hb); have HO215 := Aside0.mk (ho); clear HO212; clear ho hb hg hat; obtain ⟨Ao10,co10,eo10⟩ := Kd.R_slice HO215.out; subst eo10; obtain ⟨hcz11_0,hcz11_1⟩ := cl2 BK208.out; obtain ⟨hfz11_0,hfz11_1⟩ := fz2 BK208.out; obtain ⟨hcz12_0,hcz12_1⟩ := cl2 BK209.out; obtain ⟨hfz12_0,hfz12_1⟩ := fz2 BK209.out))
  refine bodyPost_ret (results_cell_row rfl _ _ gb209 25 #[.slice Ao10 y213.length co10,.int .i64 a0_1] (0,0) _ rfl (by (with_reducible repeat (first | refine blk_drewN ?_ _ | refine blk_drew ?_ | refine blk_alloc ?_ _)); apply blkp2; (with_reducible repeat (first | refine blk_drewN ?_ _ | refine blk_drew ?_ | refine blk_alloc ?_ _)); refine blk_far ?_ NB209_208.out _; (with_reducible repeat (first | refine blk_drewN ?_ _ | refine blk_drew ?_ | refine blk_alloc ?_ _)); exact BK209.out) Try.underlying25 rfl (by kernel_rfl)) rfl ?_
  exact ⟨_,by first | rfl | (simp [errW_none,errW_some] <;> rfl) | (simp [*,errW_none,errW_some] <;> rfl),by (with_reducible repeat (first | apply Kd.R_alloc | apply Kd.R_drewN | apply Kd.R_drew)); exact Kd.R_mono (Kd.R_far (p:=⟨gb209,1,none⟩) (Kd.R_far (p:=⟨gb209,0,none⟩) (Kd.R_far (p:=⟨gb208,0,none⟩) (Kd.R_types (Kd.R_types HO215.out BK208.out (by decide)) BK209.out (by decide)) (fun _ hk => hk.1.2) (.slice Ao10 y213.length co10)) (fun _ hk => hk.2) (.slice Ao10 y213.length co10)) (fun _ hk => hk.2) (.int .i64 a0_1)) (fun _ hk => trivial),bA⟩
 ·rw [if_neg c2] at H
  exact absurd H (by simp)

/-! ### spec_NewStore: function 45 -/
def spec_NewStore.f  : Option ((List (S32)) × Int) := some ((([] : List (S32))),1)
set_option maxHeartbeats 8000000 in
set_option maxRecDepth 100000 in
theorem spec_NewStore.calls  (r1 : List (S32)) (r2 : Int) (w : World) (h : spec_NewStore.f  = some (r1,r2)) :
  Calls Try.prog 45 #[] w fun e w' => ∃ v0_ : Value,e = .returned (.agg #[v0_,.int .i64 r2]) ∧ Kd.R k32 32 w' w.heap.size (fun _ => True) v0_ r1 ∧ Below w.heap.size w w' := by
 have hu25 := Try.underlying25
 have HB := Aside0.mk (Below.refl w.heap.size w)
 have H : (some ((([] : List (S32))),1)) = some (r1,r2) := h
 clear h
 obtain ⟨y217,hy217⟩ : ∃ y_ : List (S32),y_ = (([] : List (S32))) := ⟨_,rfl⟩
 replace H : (some (y217,1)) = some (r1,r2) := by first | (rw [hy217]; with_reducible exact H) | (have H2_ := (Option.bind_some _ _).symm.trans H; rw [hy217]; with_reducible exact H2_) | (have H2_ := (Option.bind_some _ _).symm.trans H; with_reducible exact H2_) | with_reducible exact H | (rw [hy217]; exact H) | exact H
 have Ny217 := Aside0.mk hy217
 clear hy217
 simp only [Option.some.injEq,Prod.mk.injEq] at H
 obtain ⟨rfl,rfl⟩ := H
 go_enter Try.func45,Try.ntmps45
 go_wp2_with (first | ((with_reducible refine gate_dst (N:=0) rfl ?_); refine bxe (N:=0) (cs := #[.slice none 0 0,.int .i64 0]) (t:=25) ?_; intro gb216 hg w1 hbox hb; have BK216 := Aside0.mk (hbox); have GW216 := Aside0.mk ((gw hg : w.heap.size ≤ gb216)); have GE216 := GW216; replace HB := bsA hb; clear hb hbox hg) | ((with_reducible refine gate_dst (N:=1) rfl ?_); refine Kd.R_lit k32 _ 32 ?hg (N:=1) ?hd (xs := ([] : List (S32))) (inner := []) (ok := fun _ => True) (okp := fun _ => True) ?hr ?hp (fun _ hk => hk) trivial (Below.refl _ _) (Nat.le_refl _) (by simp) ?_; (case hd => rfl); (case hg => rfl); (case hr => first | (go_simp; done) | (go_simp; rfl)); (case hp => exact (Reps.none _ _)); intro v218 w2 ho3 hb hg_ hnew_; clear hg_ hnew_; (first | rw [← Ny217.out] at ho3 | (simp only [Int.reduceToNat] at ho3; rw [← Ny217.out] at ho3)); have HO219 := Aside0.mk (Kd.R_lower ho3 (below_size bA)); replace BK216 := bbA BK216 hb; replace HB := bsA hb; clear hb ho3; obtain ⟨Ao4,co4,eo4⟩ := Kd.R_slice HO219.out; subst eo4; obtain ⟨hcz5_0,hcz5_1⟩ := cl2 BK216.out; obtain ⟨hfz5_0,hfz5_1⟩ := fz2 BK216.out))
 refine bodyPost_ret (results_cell_row rfl _ _ gb216 25 #[.slice Ao4 y217.length co4,.int .i64 1] (0,0) _ rfl (kP2 BK216.out) Try.underlying25 rfl (by kernel_rfl)) rfl ?_
 exact ⟨_,by first | rfl | (simp [errW_none,errW_some] <;> rfl) | (simp [*,errW_none,errW_some] <;> rfl),by (with_reducible repeat (first | apply Kd.R_alloc | apply Kd.R_drewN | apply Kd.R_drew)); exact Kd.R_mono (Kd.R_far (p:=⟨gb216,1,none⟩) (Kd.R_far (p:=⟨gb216,0,none⟩) (Kd.R_types HO219.out BK216.out (by decide)) (fun _ hk => hk.2) (.slice Ao4 y217.length co4)) (fun _ hk => hk.2) (.int .i64 1)) (fun _ hk => trivial),bA⟩

/-! ### spec_l00Src_pick: function 69 -/
def spec_l00Src_pick.f (s0_0 : List Int) (s0_1 : Int) (s0_2 : Int) (l1 : List ByteArray) : Option (ByteArray × Int × Int) := if (l1.length : Int) = 0 then (some ((⟨#[]⟩ : ByteArray),s0_1,s0_2)) else ((spec_l00Src_next.f s0_0 s0_1 s0_2 (l1.length : Int)).bind fun bt220 => (if 0 ≤ bt220.1 then (if bt220.1 < (l1.length : Int) then (some (rdOf ByteArray.empty l1 bt220.1,bt220.2.1,bt220.2.2)) else (none)) else (none)))
set_option maxHeartbeats 8000000 in
set_option maxRecDepth 100000 in
theorem spec_l00Src_pick.calls (g : Nat) (s0_0 : List Int) (s0_1 : Int) (s0_2 : Int) (A1 : Option Addr) (c1 : Nat) (l1 : List ByteArray) (r1 : ByteArray) (r2 : Int) (r3 : Int) (w0 w : World) (hI : IsS68 w0 w g s0_0 s0_1 s0_2) (hB : Below w0.heap.size w0 w) (hr1 : Kd.C Kd.string w A1 l1.length l1) (hc1 : l1.length ≤ c1) (hf1 : ∀ ad,A1 = some ad → 0 < l1.length → ad.block ≠ g) (h : spec_l00Src_pick.f s0_0 s0_1 s0_2 l1 = some (r1,r2,r3)) :
  Calls Try.prog 69 #[.pointer (some ⟨g,0,none⟩),.slice A1 l1.length c1] w fun e w' => e = .returned (.string r1) ∧ IsS68 w0 w' g s0_0 r2 r3 ∧ Below w0.heap.size w0 w' ∧ KeepBut w w' g none := by
 have HR1 := Aside0.mk hr1
 have HC1 := Aside0.mk hc1
 clear hr1 hc1
 have HI0 := Aside0.mk hI
 have HK := Aside0.mk (KeepBut.refl w g none)
 have HL := Aside0.mk hB.size
 clear hI
 have HW0 := Aside0.mk hB.size
 have HB := Aside0.mk hB
 clear hB
 have H : (if (l1.length : Int) = 0 then (some ((⟨#[]⟩ : ByteArray),s0_1,s0_2)) else ((spec_l00Src_next.f s0_0 s0_1 s0_2 (l1.length : Int)).bind fun bt220 => (if 0 ≤ bt220.1 then (if bt220.1 < (l1.length : Int) then (some (rdOf ByteArray.empty l1 bt220.1,bt220.2.1,bt220.2.2)) else (none)) else (none)))) = some (r1,r2,r3) := h
 clear h
 by_cases c3 : (l1.length : Int) = 0
 ·rw [if_pos c3] at H
  have c3b0 : ((l1.length : Int) == 0) = true := beq_iff_eq.mpr c3
  have c3b1 : ((l1.length : Int) != 0) = false := bne_eq_false_iff_eq.mpr c3
  clear c3
  simp only [Option.some.injEq,Prod.mk.injEq] at H
  obtain ⟨rfl,rfl,rfl⟩ := H
  go_enter Try.func69,Try.ntmps69
  go_wp2
  go_ret
  exact ⟨by first | rfl | (simp [errW_none,errW_some] <;> rfl) | (simp [*,errW_none,errW_some] <;> rfl),by exact iS68,by exact bI68,by exact kK⟩
 ·rw [if_neg c3] at H
  have c3b0 : ((l1.length : Int) == 0) = false := beq_eq_false_iff_ne.mpr c3
  have c3b1 : ((l1.length : Int) != 0) = true := bne_iff_ne.mpr c3
  have c3b2 : ¬ (l1 = []) := fun h_ => c3 (by rw [h_]; rfl)
  replace H := Option.bind_eq_some_iff.mp H
  obtain ⟨⟨t220,t221,t222⟩,A40,H⟩ := H
  try dsimp only at H
  have A4 := Aside0.mk A40
  clear A40
  by_cases c5 : 0 ≤ t220
  ·rw [if_pos c5] at H
   have c5b0 : decide (0 ≤ t220) = true := decide_eq_true c5
   clear c5
   by_cases c6 : t220 < (l1.length : Int)
   ·rw [if_pos c6] at H
    have c6b0 : decide (t220 < (l1.length : Int)) = true := decide_eq_true c6
    clear c6
    simp only [Option.some.injEq,Prod.mk.injEq] at H
    obtain ⟨rfl,rfl,rfl⟩ := H
    go_enter Try.func69,Try.ntmps69
    go_wp2_with (first | ((with_reducible refine gate_callee (f:=46) rfl ?_); refine goesL_ (some 12) rfl rfl Try.func46 (by kernel_rfl) rfl #[.pointer (some ⟨g,0,none⟩),.int .i64 (l1.length : Int)] rfl mA ?_; (with_reducible refine (spec_l00Src_next.calls g s0_0 s0_1 s0_2 (l1.length : Int) t220 t221 t222 w0 _ ?side1 ?side2 A4.out).mono ?_); (case side1 => exact iS68); (case side2 => exact bI68); rintro e w7 ⟨rfl,hi,hb,hk⟩; refine ⟨_,rfl,?_⟩; replace HK := Aside0.mk (KeepBut.trans kK hk (.inl rfl)); replace HB := Aside0.mk (hb); replace HI0 := Aside0.mk (hi); clear hb hi hk; have p223 : 0 ≤ (t220 : Int) := od; have q223 : t220 < (l1.length : Int) := od; obtain ⟨ad223,e223,hx223_0⟩ := Kd.at_string HR1.out t220 p223 q223; cases e223; replace hx223_0 := keep_cell HK.out hx223_0 (by first | (rw [add_block]; exact hf1 _ rfl (by omega)) | exact hf1 _ rfl (by omega) | exact hf1 ad223 rfl (by omega)); replace p223 := eq_true p223; replace q223 := eq_true q223))
    go_ret
    exact ⟨by first | rfl | (simp [errW_none,errW_some] <;> rfl) | (simp [*,errW_none,errW_some] <;> rfl),by exact iS68,by exact bI68,by exact kK⟩
   ·rw [if_neg c6] at H
    exact absurd H (by simp)
  ·rw [if_neg c5] at H
   exact absurd H (by simp)

/-! ### spec_l00Src_shortKey: function 47 -/
def spec_l00Src_shortKey.f (s0_0 : List Int) (s0_1 : Int) (s0_2 : Int) : Option (ByteArray × Int × Int) := (spec_l00Src_pick.f s0_0 s0_1 s0_2 (([(⟨#[97,47,49]⟩ : ByteArray),(⟨#[97,47,50]⟩ : ByteArray),(⟨#[98,47,49]⟩ : ByteArray),(⟨#[98,47,49,48]⟩ : ByteArray),(⟨#[108,101,97,115,101]⟩ : ByteArray)] : List ByteArray))).bind fun bt227 => (some (bt227.1,bt227.2.1,bt227.2.2))
set_option maxHeartbeats 8000000 in
set_option maxRecDepth 100000 in
theorem spec_l00Src_shortKey.calls (g : Nat) (s0_0 : List Int) (s0_1 : Int) (s0_2 : Int) (r1 : ByteArray) (r2 : Int) (r3 : Int) (w0 w : World) (hI : IsS68 w0 w g s0_0 s0_1 s0_2) (hB : Below w0.heap.size w0 w) (h : spec_l00Src_shortKey.f s0_0 s0_1 s0_2 = some (r1,r2,r3)) :
  Calls Try.prog 47 #[.pointer (some ⟨g,0,none⟩)] w fun e w' => e = .returned (.string r1) ∧ IsS68 w0 w' g s0_0 r2 r3 ∧ Below w0.heap.size w0 w' ∧ KeepBut w w' g none := by
 have HI0 := Aside0.mk hI
 have HK := Aside0.mk (KeepBut.refl w g none)
 have HL := Aside0.mk hB.size
 clear hI
 have HW0 := Aside0.mk hB.size
 have HB := Aside0.mk hB
 clear hB
 have H : ((spec_l00Src_pick.f s0_0 s0_1 s0_2 (([(⟨#[97,47,49]⟩ : ByteArray),(⟨#[97,47,50]⟩ : ByteArray),(⟨#[98,47,49]⟩ : ByteArray),(⟨#[98,47,49,48]⟩ : ByteArray),(⟨#[108,101,97,115,101]⟩ : ByteArray)] : List ByteArray))).bind fun bt227 => (some (bt227.1,bt227.2.1,bt227.2.2))) = some (r1,r2,r3) := h
 clear h
 obtain ⟨y224,hy224⟩ : ∃ y_ : List ByteArray,y_ = (([(⟨#[97,47,49]⟩ : ByteArray),(⟨#[97,47,50]⟩ : ByteArray),(⟨#[98,47,49]⟩ : ByteArray),(⟨#[98,47,49,48]⟩ : ByteArray),(⟨#[108,101,97,115,101]⟩ : ByteArray)] : List ByteArray)) := ⟨_,rfl⟩
 replace H : ((spec_l00Src_pick.f s0_0 s0_1 s0_2 y224).bind fun bt227 => (some (bt227.1,bt227.2.1,bt227.2.2))) = some (r1,r2,r3) := by first | (rw [hy224]; with_reducible exact H) | (have H2_ := (Option.bind_some _ _).symm.trans H; rw [hy224]; with_reducible exact H2_) | (have H2_ := (Option.bind_some _ _).symm.trans H; with_reducible exact H2_) | with_reducible exact H | (rw [hy224]; exact H) | exact H
 have Ny224 := Aside0.mk hy224
 clear hy224
 replace H := Option.bind_eq_some_iff.mp H
 obtain ⟨⟨t227,t228,t229⟩,A20,H⟩ := H
 try dsimp only at H
 have A2 := Aside0.mk A20
 clear A20
 simp only [Option.some.injEq,Prod.mk.injEq] at H
 obtain ⟨rfl,rfl,rfl⟩ := H
 go_enter Try.func47,Try.ntmps47
 go_wp2_with (first | ((with_reducible refine gate_dst (N:=4) rfl ?_); refine Kd.R_lit Kd.string _ 9 ?hg (N:=4) ?hd (xs := ([(⟨#[97,47,49]⟩ : ByteArray),(⟨#[97,47,50]⟩ : ByteArray),(⟨#[98,47,49]⟩ : ByteArray),(⟨#[98,47,49,48]⟩ : ByteArray),(⟨#[108,101,97,115,101]⟩ : ByteArray)] : List ByteArray)) (inner := [.string (⟨#[97,47,49]⟩ : ByteArray),.string (⟨#[97,47,50]⟩ : ByteArray),.string (⟨#[98,47,49]⟩ : ByteArray),.string (⟨#[98,47,49,48]⟩ : ByteArray),.string (⟨#[108,101,97,115,101]⟩ : ByteArray)]) (ok := fun _ => True) (okp := fun _ => True) ?hr ?hp (fun _ hk => hk) trivial (Below.refl _ _) (Nat.le_refl _) (by simp) ?_; (case hd => rfl); (case hg => rfl); (case hr => first | (go_simp; done) | (go_simp; rfl)); (case hp => exact (Reps.one (show Kd.M Kd.string _ _ _ (⟨#[97,47,49]⟩ : ByteArray) [.string (⟨#[97,47,49]⟩ : ByteArray)] from rfl) (Reps.one (show Kd.M Kd.string _ _ _ (⟨#[97,47,50]⟩ : ByteArray) [.string (⟨#[97,47,50]⟩ : ByteArray)] from rfl) (Reps.one (show Kd.M Kd.string _ _ _ (⟨#[98,47,49]⟩ : ByteArray) [.string (⟨#[98,47,49]⟩ : ByteArray)] from rfl) (Reps.one (show Kd.M Kd.string _ _ _ (⟨#[98,47,49,48]⟩ : ByteArray) [.string (⟨#[98,47,49,48]⟩ : ByteArray)] from rfl) (Reps.one (show Kd.M Kd.string _ _ _ (⟨#[108,101,97,115,101]⟩ : ByteArray) [.string (⟨#[108,101,97,115,101]⟩ : ByteArray)] from rfl) (Reps.none _ _))))))); intro v225 w3 ho4 hb hg_ hnew_; clear hg_ hnew_; (first | rw [← Ny224.out] at ho4 | (simp only [Int.reduceToNat] at ho4; rw [← Ny224.out] at ho4)); have HO226 := Aside0.mk (Kd.R_lower ho4 (keep_size (w:=w) (g:=g) (row := none) kK)); replace HK := Aside0.mk (KeepBut.trans kK (KeepBut.of_below hb g none) (.inl rfl)); replace HB := Aside0.mk (below_step bI68 hb); replace HI0 := Aside0.mk (IsS68.below iS68 hb); clear hb ho4; obtain ⟨Ao5,co5,eo5⟩ := Kd.R_slice HO226.out; subst eo5) | ((with_reducible refine gate_callee (f:=69) rfl ?_); refine goesL_ (some 5) rfl rfl Try.func69 (by kernel_rfl) rfl #[.pointer (some ⟨g,0,none⟩),.slice Ao5 y224.length co5] rfl mA ?_; (with_reducible refine (spec_l00Src_pick.calls g s0_0 s0_1 s0_2 _ _ y224 t227 t228 t229 w0 _ ?side1 ?side2 ?side3 ?side4 ?side5 A2.out).mono ?_); (case side1 => exact iS68); (case side2 => exact bI68); (case side3 => repeat (first | exact (Kd.R_reads' HO226.out).2.2 | (with_reducible refine Kd.C_alloc ?_ _) | (with_reducible refine Kd.C_drewN ?_ _) | (with_reducible refine Kd.C_drew ?_))); (case side4 => exact (Kd.R_reads' HO226.out).2.1); (case side5 => exact far_slice (IsS68.own_ne HI0.out HO226.out (by decide))); rintro e w6 ⟨rfl,hi,hb,hk⟩; refine ⟨_,rfl,?_⟩; replace HO226 := Aside0.mk (Kd.R_mono (Kd.R_keep (IsS68.apart (show IsS68 w0 _ g s0_0 s0_1 s0_2 from by exact iS68) (rA HO226.out) (by decide)) hk (fun _ h => h.2)) (fun _ h => h.1)); replace HK := Aside0.mk (KeepBut.trans kK hk (.inl rfl)); replace HB := Aside0.mk (hb); replace HI0 := Aside0.mk (hi); clear hb hi hk))
 go_ret
 exact ⟨by first | rfl | (simp [errW_none,errW_some] <;> rfl) | (simp [*,errW_none,errW_some] <;> rfl),by exact iS68,by exact bI68,by exact kK⟩

/-! ### spec_l01Get: function 48 -/
def spec_l01Get.f (k : Nat) (l0_0 : List (S32)) (a0_1 : Int) (a1 : ByteArray) : Option (ByteArray × Int) := (spec_l01Find.f k l0_0 a0_1 a1).bind fun t231 => (if t231 < 0 then (some ((⟨#[]⟩ : ByteArray),0)) else (if 0 ≤ t231 then (if t231 < (l0_0.length : Int) then (some ((rd_T32 l0_0 t231).f2,(rd_T32 l0_0 t231).f1)) else (none)) else (none)))
theorem spec_l01Get.mono : ∀ a0 a1 a2 k,LeO (spec_l01Get.f k a0 a1 a2) (spec_l01Get.f (k + 1) a0 a1 a2) := by
 intro a0 a1 a2 k
 unfold spec_l01Get.f
 repeat' first
 | (with_reducible first | exact spec_l01Find.mono .. | exact LeO.refl _ | exact LeO.none _ | refine LeO.ite ?_ ?_ | refine LeO.bind ?_ (fun _ => ?_))
 | exact LeO.none _ | refine LeO.ite ?_ ?_ | refine LeO.bind ?_ (fun _ => ?_)
set_option maxHeartbeats 8000000 in
set_option maxRecDepth 100000 in
theorem spec_l01Get.calls (k : Nat) (A0_0 : Option Addr) (c0_0 : Nat) (l0_0 : List (S32)) (a0_1 : Int) (a1 : ByteArray) (r1 : ByteArray) (r2 : Int) (w : World) (hr0_0 : Kd.C k32 w A0_0 l0_0.length l0_0) (hc0_0 : l0_0.length ≤ c0_0) (h : spec_l01Get.f k l0_0 a0_1 a1 = some (r1,r2)) :
  Calls Try.prog 48 #[.agg #[.slice A0_0 l0_0.length c0_0,.int .i64 a0_1],.string a1] w fun e w' => e = .returned (.tuple #[.string r1,.int .i64 r2]) ∧ Below w.heap.size w w' := by
 have hu25 := Try.underlying25
 have HR0_0 := Aside0.mk hr0_0
 have HC0_0 := Aside0.mk hc0_0
 clear hr0_0 hc0_0
 have HB := Aside0.mk (Below.refl w.heap.size w)
 have H : ((spec_l01Find.f k l0_0 a0_1 a1).bind fun t231 => (if t231 < 0 then (some ((⟨#[]⟩ : ByteArray),0)) else (if 0 ≤ t231 then (if t231 < (l0_0.length : Int) then (some ((rd_T32 l0_0 t231).f2,(rd_T32 l0_0 t231).f1)) else (none)) else (none)))) = some (r1,r2) := h
 clear h
 replace H := Option.bind_eq_some_iff.mp H
 obtain ⟨t231,A30,H⟩ := H
 try dsimp only at H
 have A3 := Aside0.mk A30
 clear A30
 by_cases c4 : t231 < 0
 ·rw [if_pos c4] at H
  have c4b0 : decide (t231 < 0) = true := decide_eq_true c4
  clear c4
  simp only [Option.some.injEq,Prod.mk.injEq] at H
  obtain ⟨rfl,rfl⟩ := H
  go_enter Try.func48,Try.ntmps48
  go_wp2_with (first | ((with_reducible refine gate_dst (N:=2) rfl ?_); refine bxe (N:=2) (cs := #[.slice A0_0 l0_0.length c0_0,.int .i64 a0_1]) (t:=25) ?_; intro gb230 hg w5 hbox hb; have BK230 := Aside0.mk (hbox); have GW230 := Aside0.mk ((gw hg : w.heap.size ≤ gb230)); have GE230 := GW230; replace HB := bsA hb; clear hb hbox hg; obtain ⟨hcz6_0,hcz6_1⟩ := cl2 BK230.out; obtain ⟨hfz6_0,hfz6_1⟩ := fz2 BK230.out) | (go_at_call 59; (with_reducible refine (spec_l01Find.calls k _ _ l0_0 a0_1 a1 t231 _ ?side1 ?side2 A3.out).mono ?_); (case side1 => exact sC HR0_0.out); (case side2 => exact HC0_0.out); rintro e w7 ⟨rfl,hb⟩; replace BK230 := bbA BK230 hb; replace HB := bsA hb; clear hb))
  repeat (go_quiet (first | ((with_reducible refine gate_dst (N:=2) rfl ?_); refine bxe (N:=2) (cs := #[.slice A0_0 l0_0.length c0_0,.int .i64 a0_1]) (t:=25) ?_; intro gb230 hg w5 hbox hb; have BK230 := Aside0.mk (hbox); have GW230 := Aside0.mk ((gw hg : w.heap.size ≤ gb230)); have GE230 := GW230; replace HB := bsA hb; clear hb hbox hg; obtain ⟨hcz6_0,hcz6_1⟩ := cl2 BK230.out; obtain ⟨hfz6_0,hfz6_1⟩ := fz2 BK230.out) | (go_at_call 59; (with_reducible refine (spec_l01Find.calls k _ _ l0_0 a0_1 a1 t231 _ ?side1 ?side2 A3.out).mono ?_); (case side1 => exact sC HR0_0.out); (case side2 => exact HC0_0.out); rintro e w7 ⟨rfl,hb⟩; replace BK230 := bbA BK230 hb; replace HB := bsA hb; clear hb)); try go_wp2_with (first | ((with_reducible refine gate_dst (N:=2) rfl ?_); refine bxe (N:=2) (cs := #[.slice A0_0 l0_0.length c0_0,.int .i64 a0_1]) (t:=25) ?_; intro gb230 hg w5 hbox hb; have BK230 := Aside0.mk (hbox); have GW230 := Aside0.mk ((gw hg : w.heap.size ≤ gb230)); have GE230 := GW230; replace HB := bsA hb; clear hb hbox hg; obtain ⟨hcz6_0,hcz6_1⟩ := cl2 BK230.out; obtain ⟨hfz6_0,hfz6_1⟩ := fz2 BK230.out) | (go_at_call 59; (with_reducible refine (spec_l01Find.calls k _ _ l0_0 a0_1 a1 t231 _ ?side1 ?side2 A3.out).mono ?_); (case side1 => exact sC HR0_0.out); (case side2 => exact HC0_0.out); rintro e w7 ⟨rfl,hb⟩; replace BK230 := bbA BK230 hb; replace HB := bsA hb; clear hb)))
  go_ret2
  exact ⟨by first | rfl | (simp [errW_none,errW_some] <;> rfl) | (simp [*,errW_none,errW_some] <;> rfl),bA⟩
 ·rw [if_neg c4] at H
  have c4b0 : decide (t231 < 0) = false := decide_eq_false c4
  clear c4
  by_cases c8 : 0 ≤ t231
  ·rw [if_pos c8] at H
   have c8b0 : decide (0 ≤ t231) = true := decide_eq_true c8
   clear c8
   by_cases c9 : t231 < (l0_0.length : Int)
   ·rw [if_pos c9] at H
    have c9b0 : decide (t231 < (l0_0.length : Int)) = true := decide_eq_true c9
    clear c9
    simp only [Option.some.injEq,Prod.mk.injEq] at H
    obtain ⟨rfl,rfl⟩ := H
    go_enter Try.func48,Try.ntmps48
    go_wp2_with (first | ((with_reducible refine gate_dst (N:=2) rfl ?_); refine bxe (N:=2) (cs := #[.slice A0_0 l0_0.length c0_0,.int .i64 a0_1]) (t:=25) ?_; intro gb230 hg w10 hbox hb; have BK230 := Aside0.mk (hbox); have GW230 := Aside0.mk ((gw hg : w.heap.size ≤ gb230)); have GE230 := GW230; replace HB := bsA hb; clear hb hbox hg; obtain ⟨hcz11_0,hcz11_1⟩ := cl2 BK230.out; obtain ⟨hfz11_0,hfz11_1⟩ := fz2 BK230.out) | (go_at_call 59; (with_reducible refine (spec_l01Find.calls k _ _ l0_0 a0_1 a1 t231 _ ?side1 ?side2 A3.out).mono ?_); (case side1 => exact sC HR0_0.out); (case side2 => exact HC0_0.out); rintro e w12 ⟨rfl,hb⟩; replace BK230 := bbA BK230 hb; replace HB := bsA hb; clear hb; obtain ⟨hcz13_0,hcz13_1⟩ := cl2 BK230.out; obtain ⟨hfz13_0,hfz13_1⟩ := fz2 BK230.out; have p232 : 0 ≤ (t231 : Int) := od; have q232 : t231 < (l0_0.length : Int) := od; obtain ⟨ad232,e232,hx232_0,hx232_1,hx232_2⟩ := at_T32 HR0_0.out t231 p232 q232; cases e232; replace hx232_0 := cb HB.out hx232_0; replace hx232_1 := cb HB.out hx232_1; replace hx232_2 := cb HB.out hx232_2; replace p232 := eq_true p232; replace q232 := eq_true q232; have p233 : 0 ≤ (t231 : Int) := od; have q233 : t231 < (l0_0.length : Int) := od; obtain ⟨ad233,e233,hx233_0,hx233_1,hx233_2⟩ := at_T32 HR0_0.out t231 p233 q233; obtain rfl : ad232 = ad233 := (by injection e233); replace hx233_0 := cb HB.out hx233_0; replace hx233_1 := cb HB.out hx233_1; replace hx233_2 := cb HB.out hx233_2; replace p233 := eq_true p233; replace q233 := eq_true q233))
    repeat (go_quiet (first | ((with_reducible refine gate_dst (N:=2) rfl ?_); refine bxe (N:=2) (cs := #[.slice A0_0 l0_0.length c0_0,.int .i64 a0_1]) (t:=25) ?_; intro gb230 hg w10 hbox hb; have BK230 := Aside0.mk (hbox); have GW230 := Aside0.mk ((gw hg : w.heap.size ≤ gb230)); have GE230 := GW230; replace HB := bsA hb; clear hb hbox hg; obtain ⟨hcz11_0,hcz11_1⟩ := cl2 BK230.out; obtain ⟨hfz11_0,hfz11_1⟩ := fz2 BK230.out) | (go_at_call 59; (with_reducible refine (spec_l01Find.calls k _ _ l0_0 a0_1 a1 t231 _ ?side1 ?side2 A3.out).mono ?_); (case side1 => exact sC HR0_0.out); (case side2 => exact HC0_0.out); rintro e w12 ⟨rfl,hb⟩; replace BK230 := bbA BK230 hb; replace HB := bsA hb; clear hb; obtain ⟨hcz13_0,hcz13_1⟩ := cl2 BK230.out; obtain ⟨hfz13_0,hfz13_1⟩ := fz2 BK230.out; have p232 : 0 ≤ (t231 : Int) := od; have q232 : t231 < (l0_0.length : Int) := od; obtain ⟨ad232,e232,hx232_0,hx232_1,hx232_2⟩ := at_T32 HR0_0.out t231 p232 q232; cases e232; replace hx232_0 := cb HB.out hx232_0; replace hx232_1 := cb HB.out hx232_1; replace hx232_2 := cb HB.out hx232_2; replace p232 := eq_true p232; replace q232 := eq_true q232; have p233 : 0 ≤ (t231 : Int) := od; have q233 : t231 < (l0_0.length : Int) := od; obtain ⟨ad233,e233,hx233_0,hx233_1,hx233_2⟩ := at_T32 HR0_0.out t231 p233 q233; obtain rfl : ad232 = ad233 := (by injection e233); replace hx233_0 := cb HB.out hx233_0; replace hx233_1 := cb HB.out hx233_1; replace hx233_2 := cb HB.out hx233_2; replace p233 := eq_true p233; replace q233 := eq_true q233)); try go_wp2_with (first | ((with_reducible refine gate_dst (N:=2) rfl ?_); refine bxe (N:=2) (cs := #[.slice A0_0 l0_0.length c0_0,.int .i64 a0_1]) (t:=25) ?_; intro gb230 hg w10 hbox hb; have BK230 := Aside0.mk (hbox); have GW230 := Aside0.mk ((gw hg : w.heap.size ≤ gb230)); have GE230 := GW230; replace HB := bsA hb; clear hb hbox hg; obtain ⟨hcz11_0,hcz11_1⟩ := cl2 BK230.out; obtain ⟨hfz11_0,hfz11_1⟩ := fz2 BK230.out) | (go_at_call 59; (with_reducible refine (spec_l01Find.calls k _ _ l0_0 a0_1 a1 t231 _ ?side1 ?side2 A3.out).mono ?_); (case side1 => exact sC HR0_0.out); (case side2 => exact HC0_0.out); rintro e w12 ⟨rfl,hb⟩; replace BK230 := bbA BK230 hb; replace HB := bsA hb; clear hb; obtain ⟨hcz13_0,hcz13_1⟩ := cl2 BK230.out; obtain ⟨hfz13_0,hfz13_1⟩ := fz2 BK230.out; have p232 : 0 ≤ (t231 : Int) := od; have q232 : t231 < (l0_0.length : Int) := od; obtain ⟨ad232,e232,hx232_0,hx232_1,hx232_2⟩ := at_T32 HR0_0.out t231 p232 q232; cases e232; replace hx232_0 := cb HB.out hx232_0; replace hx232_1 := cb HB.out hx232_1; replace hx232_2 := cb HB.out hx232_2; replace p232 := eq_true p232; replace q232 := eq_true q232; have p233 : 0 ≤ (t231 : Int) := od; have q233 : t231 < (l0_0.length : Int) := od; obtain ⟨ad233,e233,hx233_0,hx233_1,hx233_2⟩ := at_T32 HR0_0.out t231 p233 q233; obtain rfl : ad232 = ad233 := (by injection e233); replace hx233_0 := cb HB.out hx233_0; replace hx233_1 := cb HB.out hx233_1; replace hx233_2 := cb HB.out hx233_2; replace p233 := eq_true p233; replace q233 := eq_true q233)))
    go_ret2
    exact ⟨by first | rfl | (simp [errW_none,errW_some] <;> rfl) | (simp [*,errW_none,errW_some] <;> rfl),bA⟩
   ·rw [if_neg c9] at H
    exact absurd H (by simp)
  ·rw [if_neg c8] at H
   exact absurd H (by simp)

/-! ### spec_l01Over: function 49 -/
def spec_l01Over.f (k : Nat) (l0_0 : List (S32)) (a0_1 : Int) (a1 : ByteArray) (a2 : Int) (a3 : ByteArray) : Option ((List (S32)) × Int × Int) := (spec_l01Get.f k l0_0 a0_1 a1).bind fun bt236 => (if bt236.2 = 0 then (some (l0_0,a0_1,5)) else (if bt236.2 = a2 then ((spec_l01Room.f k l0_0 a0_1 a1 a3).bind fun t238 => (if t238 = 0 then ((spec_l01Set.f k l0_0 a0_1 a1 a3).bind fun bt239 => (some (bt239.1,bt239.2,0))) else (some (l0_0,a0_1,t238)))) else (some (l0_0,a0_1,10))))
theorem spec_l01Over.mono : ∀ a0 a1 a2 a3 a4 k,LeO (spec_l01Over.f k a0 a1 a2 a3 a4) (spec_l01Over.f (k + 1) a0 a1 a2 a3 a4) := by
 intro a0 a1 a2 a3 a4 k
 unfold spec_l01Over.f
 repeat' first
 | (with_reducible first | exact spec_l01Get.mono .. | exact spec_l01Room.mono .. | exact spec_l01Set.mono .. | exact LeO.refl _ | exact LeO.none _ | refine LeO.ite ?_ ?_ | refine LeO.bind ?_ (fun _ => ?_))
 | exact LeO.none _ | refine LeO.ite ?_ ?_ | refine LeO.bind ?_ (fun _ => ?_)
set_option maxHeartbeats 8000000 in
set_option maxRecDepth 100000 in
theorem spec_l01Over.calls (k : Nat) (P0_0_ : Nat → Prop) (A0_0 : Option Addr) (c0_0 : Nat) (l0_0 : List (S32)) (a0_1 : Int) (a1 : ByteArray) (a2 : Int) (a3 : ByteArray) (r1 : List (S32)) (r2 : Int) (r3 : Int) (w : World) (hs0_0 : Kd.V k32 32 w w.heap.size (fun k_ => P0_0_ k_) (.slice A0_0 l0_0.length c0_0) l0_0) (h : spec_l01Over.f k l0_0 a0_1 a1 a2 a3 = some (r1,r2,r3)) :
  Calls Try.prog 49 #[.agg #[.slice A0_0 l0_0.length c0_0,.int .i64 a0_1],.string a1,.int .i64 a2,.string a3] w fun e w' => ∃ v0_ : Value,e = .returned (.tuple #[.agg #[v0_,.int .i64 r2],.int .i64 r3]) ∧ Kd.V k32 32 w' w.heap.size (fun k_ => (P0_0_ k_ ∨ w.heap.size ≤ k_)) v0_ r1 ∧ Below w.heap.size w w' := by
 have hu25 := Try.underlying25
 have HO0_0 := Aside0.mk (show Kd.V k32 32 w w.heap.size (fun k_ => (P0_0_ k_ ∨ w.heap.size ≤ k_)) (.slice A0_0 l0_0.length c0_0) l0_0 from Kd.V_mono hs0_0 (fun k_ hk => .inl hk))
 have HB := Aside0.mk (Below.refl w.heap.size w)
 have H : ((spec_l01Get.f k l0_0 a0_1 a1).bind fun bt236 => (if bt236.2 = 0 then (some (l0_0,a0_1,5)) else (if bt236.2 = a2 then ((spec_l01Room.f k l0_0 a0_1 a1 a3).bind fun t238 => (if t238 = 0 then ((spec_l01Set.f k l0_0 a0_1 a1 a3).bind fun bt239 => (some (bt239.1,bt239.2,0))) else (some (l0_0,a0_1,t238)))) else (some (l0_0,a0_1,10))))) = some (r1,r2,r3) := h
 clear h
 replace H := Option.bind_eq_some_iff.mp H
 obtain ⟨⟨t236,t237⟩,A50,H⟩ := H
 try dsimp only at H
 have A5 := Aside0.mk A50
 clear A50
 by_cases c6 : t237 = 0
 ·rw [if_pos c6] at H
  have c6b0 : (t237 == 0) = true := beq_iff_eq.mpr c6
  have c6b1 : (t237 != 0) = false := bne_eq_false_iff_eq.mpr c6
  clear c6
  simp only [Option.some.injEq,Prod.mk.injEq] at H
  obtain ⟨rfl,rfl,rfl⟩ := H
  go_enter Try.func49,Try.ntmps49
  go_wp2_with (first | ((with_reducible refine gate_dst (N:=4) rfl ?_); refine bxe (N:=4) (cs := #[.slice A0_0 l0_0.length c0_0,.int .i64 a0_1]) (t:=25) ?_; intro gb234 hg w7 hbox hb; replace HO0_0 := Aside0.mk (Kd.V_below (Kd.V_elderB (vA HO0_0.out) gb234 (Nat.le_of_eq hg.symm)) hb); have BK234 := Aside0.mk (hbox); have GW234 := Aside0.mk ((gw hg : w.heap.size ≤ gb234)); have GE234 := GW234; replace HB := bsA hb; clear hb hbox hg) | ((with_reducible refine gate_dst (N:=8) rfl ?_); refine bxe (N:=8) (cs := #[.slice none 0 0,.int .i64 0]) (t:=25) ?_; intro gb235 hg w8 hbox hb; replace HO0_0 := Aside0.mk (Kd.V_below (Kd.V_elderB (vA HO0_0.out) gb235 (Nat.le_of_eq hg.symm)) hb); have BK235 := Aside0.mk (hbox); have GW235 := Aside0.mk ((gw hg : w.heap.size ≤ gb235)); have GE235 := GW235; replace HB := bsA hb; have NB234_235 := Aside0.mk ((nl hg BK234.out)); have NB235_234 := Aside0.mk ((ng hg BK234.out)); replace BK234 := bbA BK234 hb; clear hb hbox hg; have hnb9 := NB234_235.out; have hnc9 := NB235_234.out; obtain ⟨hcz10_0,hcz10_1⟩ := cl2 BK234.out; obtain ⟨hfz10_0,hfz10_1⟩ := fz2 BK234.out) | ((with_reducible refine gate_callee (f:=48) rfl ?_); refine goesL_ (some 16) rfl rfl Try.func48 (by kernel_rfl) rfl #[.agg #[.slice A0_0 l0_0.length c0_0,.int .i64 a0_1],.string a1] rfl mA ?_; (with_reducible refine (spec_l01Get.calls k _ _ l0_0 a0_1 a1 t236 t237 _ ?side1 ?side2 A5.out).mono ?_); (case side1 => repeat (first | exact (Kd.V_reads' HO0_0.out).2.2 | (with_reducible refine Kd.C_alloc ?_ _) | (with_reducible refine Kd.C_drewN ?_ _) | (with_reducible refine Kd.C_drew ?_))); (case side2 => exact (Kd.V_reads' HO0_0.out).2.1); rintro e w11 ⟨rfl,hb⟩; refine ⟨_,rfl,?_⟩; replace HO0_0 := Aside0.mk (Kd.V_below (vA HO0_0.out) hb); replace BK234 := bbA BK234 hb; replace BK235 := bbA BK235 hb; replace HB := bsA hb; clear hb; obtain ⟨hcz12_0,hcz12_1⟩ := cl2 BK234.out; obtain ⟨hfz12_0,hfz12_1⟩ := fz2 BK234.out; obtain ⟨hcz13_0,hcz13_1⟩ := cl2 BK235.out; obtain ⟨hfz13_0,hfz13_1⟩ := fz2 BK235.out))
  refine bodyPost_ret (results_ct rfl _ _ gb235 25 #[.slice A0_0 l0_0.length c0_0,.int .i64 a0_1] (0,0) _ rfl (kP2 BK235.out) Try.underlying25 rfl (by kernel_rfl)) rfl ?_
  exact ⟨_,by first | rfl | (simp [errW_none,errW_some] <;> rfl) | (simp [*,errW_none,errW_some] <;> rfl),by (with_reducible repeat (first | apply Kd.V_alloc | apply Kd.V_drewN | apply Kd.V_drew)); exact Kd.V_mono (Kd.V_far (p:=⟨gb235,1,none⟩) (Kd.V_far (p:=⟨gb235,0,none⟩) (Kd.V_mono HO0_0.out (fun k_ hk => (⟨hk,hk.2⟩ : _ ∧ k_ ≠ gb235))) (fun _ hk => hk.2) (.slice A0_0 l0_0.length c0_0)) (fun _ hk => hk.2) (.int .i64 a0_1)) (fun _ hk => hk.1.1.1),bA⟩
 ·rw [if_neg c6] at H
  have c6b0 : (t237 == 0) = false := beq_eq_false_iff_ne.mpr c6
  have c6b1 : (t237 != 0) = true := bne_iff_ne.mpr c6
  by_cases c14 : t237 = a2
  ·rw [if_pos c14] at H
   have c14b0 : (t237 == a2) = true := beq_iff_eq.mpr c14
   have c14b1 : (t237 != a2) = false := bne_eq_false_iff_eq.mpr c14
   clear c14
   replace H := Option.bind_eq_some_iff.mp H
   obtain ⟨t238,A150,H⟩ := H
   try dsimp only at H
   have A15 := Aside0.mk A150
   clear A150
   by_cases c16 : t238 = 0
   ·rw [if_pos c16] at H
    have c16b0 : (t238 == 0) = true := beq_iff_eq.mpr c16
    have c16b1 : (t238 != 0) = false := bne_eq_false_iff_eq.mpr c16
    clear c16
    replace H := Option.bind_eq_some_iff.mp H
    obtain ⟨⟨t239,t242⟩,A170,H⟩ := H
    try dsimp only at H
    have A17 := Aside0.mk A170
    clear A170
    simp only [Option.some.injEq,Prod.mk.injEq] at H
    obtain ⟨rfl,rfl,rfl⟩ := H
    go_enter Try.func49,Try.ntmps49
    go_wp2_with (first | ((with_reducible refine gate_dst (N:=4) rfl ?_); refine bxe (N:=4) (cs := #[.slice A0_0 l0_0.length c0_0,.int .i64 a0_1]) (t:=25) ?_; intro gb234 hg w18 hbox hb; replace HO0_0 := Aside0.mk (Kd.V_below (Kd.V_elderB (vA HO0_0.out) gb234 (Nat.le_of_eq hg.symm)) hb); have BK234 := Aside0.mk (hbox); have GW234 := Aside0.mk ((gw hg : w.heap.size ≤ gb234)); have GE234 := GW234; replace HB := bsA hb; clear hb hbox hg) | ((with_reducible refine gate_dst (N:=8) rfl ?_); refine bxe (N:=8) (cs := #[.slice none 0 0,.int .i64 0]) (t:=25) ?_; intro gb235 hg w19 hbox hb; replace HO0_0 := Aside0.mk (Kd.V_below (Kd.V_elderB (vA HO0_0.out) gb235 (Nat.le_of_eq hg.symm)) hb); have BK235 := Aside0.mk (hbox); have GW235 := Aside0.mk ((gw hg : w.heap.size ≤ gb235)); have GE235 := GW235; replace HB := bsA hb; have NB234_235 := Aside0.mk ((nl hg BK234.out)); have NB235_234 := Aside0.mk ((ng hg BK234.out)); replace BK234 := bbA BK234 hb; clear hb hbox hg; have hnb20 := NB234_235.out; have hnc20 := NB235_234.out; obtain ⟨hcz21_0,hcz21_1⟩ := cl2 BK234.out; obtain ⟨hfz21_0,hfz21_1⟩ := fz2 BK234.out) | ((with_reducible refine gate_callee (f:=48) rfl ?_); refine goesL_ (some 16) rfl rfl Try.func48 (by kernel_rfl) rfl #[.agg #[.slice A0_0 l0_0.length c0_0,.int .i64 a0_1],.string a1] rfl mA ?_; (with_reducible refine (spec_l01Get.calls k _ _ l0_0 a0_1 a1 t236 t237 _ ?side1 ?side2 A5.out).mono ?_); (case side1 => repeat (first | exact (Kd.V_reads' HO0_0.out).2.2 | (with_reducible refine Kd.C_alloc ?_ _) | (with_reducible refine Kd.C_drewN ?_ _) | (with_reducible refine Kd.C_drew ?_))); (case side2 => exact (Kd.V_reads' HO0_0.out).2.1); rintro e w22 ⟨rfl,hb⟩; refine ⟨_,rfl,?_⟩; replace HO0_0 := Aside0.mk (Kd.V_below (vA HO0_0.out) hb); replace BK234 := bbA BK234 hb; replace BK235 := bbA BK235 hb; replace HB := bsA hb; clear hb; obtain ⟨hcz23_0,hcz23_1⟩ := cl2 BK234.out; obtain ⟨hfz23_0,hfz23_1⟩ := fz2 BK234.out) | ((with_reducible refine gate_callee (f:=60) rfl ?_); refine goesL_ (some 29) rfl rfl Try.func60 (by kernel_rfl) rfl #[.agg #[.slice A0_0 l0_0.length c0_0,.int .i64 a0_1],.string a1,.string a3] rfl mA ?_; (with_reducible refine (spec_l01Room.calls k _ _ l0_0 a0_1 a1 a3 t238 _ ?side1 ?side2 A15.out).mono ?_); (case side1 => repeat (first | exact (Kd.V_reads' HO0_0.out).2.2 | (with_reducible refine Kd.C_alloc ?_ _) | (with_reducible refine Kd.C_drewN ?_ _) | (with_reducible refine Kd.C_drew ?_))); (case side2 => exact (Kd.V_reads' HO0_0.out).2.1); rintro e w24 ⟨rfl,hb⟩; refine ⟨_,rfl,?_⟩; replace HO0_0 := Aside0.mk (Kd.V_below (vA HO0_0.out) hb); replace BK234 := bbA BK234 hb; replace BK235 := bbA BK235 hb; replace HB := bsA hb; clear hb; obtain ⟨hcz25_0,hcz25_1⟩ := cl2 BK234.out; obtain ⟨hfz25_0,hfz25_1⟩ := fz2 BK234.out) | ((with_reducible refine gate_callee (f:=61) rfl ?_); refine goesL_ (some 37) rfl rfl Try.func61 (by kernel_rfl) rfl #[.agg #[.slice A0_0 l0_0.length c0_0,.int .i64 a0_1],.string a1,.string a3] rfl mA ?_; (with_reducible refine (spec_l01Set.calls k _ _ l0_0 a0_1 a1 a3 t239 t242 _ ?side1 ?side2 A17.out).mono ?_); (case side1 => repeat (first | exact (Kd.V_reads' HO0_0.out).2.2 | (with_reducible refine Kd.C_alloc ?_ _) | (with_reducible refine Kd.C_drewN ?_ _) | (with_reducible refine Kd.C_drew ?_))); (case side2 => exact (Kd.V_reads' HO0_0.out).2.1); rintro e w26 ⟨v240,rfl,ho0,hb⟩; refine ⟨_,rfl,?_⟩; replace HO0_0 := Aside0.mk (Kd.V_elder' (vA HO0_0.out) (Kd.R_base ho0) hb); have HO241 := Aside0.mk (Kd.R_lower (Kd.R_newM (M:=fun k_ => (w.heap.size ≤ k_)) ho0 (below_size bA) (fun k_ h_ => h_)) (below_size bA)); replace BK234 := bbA BK234 hb; replace BK235 := bbA BK235 hb; replace HB := bsA hb; clear hb; (try clear ho0); obtain ⟨Ao27,co27,eo27⟩ := Kd.R_slice HO241.out; subst eo27; obtain ⟨hcz28_0,hcz28_1⟩ := cl2 BK235.out; obtain ⟨hfz28_0,hfz28_1⟩ := fz2 BK235.out))
    refine bodyPost_ret (results_ct rfl _ _ gb235 25 #[.slice Ao27 t239.length co27,.int .i64 t242] (0,0) _ rfl (kP2 BK235.out) Try.underlying25 rfl (by kernel_rfl)) rfl ?_
    exact ⟨_,by first | rfl | (simp [errW_none,errW_some] <;> rfl) | (simp [*,errW_none,errW_some] <;> rfl),Kd.V_mono (Kd.R_V (by (with_reducible repeat (first | apply Kd.R_alloc | apply Kd.R_drewN | apply Kd.R_drew)); exact Kd.R_mono (Kd.R_far (p:=⟨gb235,1,none⟩) (Kd.R_far (p:=⟨gb235,0,none⟩) (Kd.R_types HO241.out BK235.out (by decide)) (fun _ hk => hk.2) (.slice Ao27 t239.length co27)) (fun _ hk => hk.2) (.int .i64 t242)) (fun _ hk => hk.1.1))) (fun k_ hk => by first | exact ⟨(.inr (hk.1)),hk.2⟩ | exact (.inr (hk))),bA⟩
   ·rw [if_neg c16] at H
    have c16b0 : (t238 == 0) = false := beq_eq_false_iff_ne.mpr c16
    have c16b1 : (t238 != 0) = true := bne_iff_ne.mpr c16
    simp only [Option.some.injEq,Prod.mk.injEq] at H
    obtain ⟨rfl,rfl,rfl⟩ := H
    go_enter Try.func49,Try.ntmps49
    go_wp2_with (first | ((with_reducible refine gate_dst (N:=4) rfl ?_); refine bxe (N:=4) (cs := #[.slice A0_0 l0_0.length c0_0,.int .i64 a0_1]) (t:=25) ?_; intro gb234 hg w29 hbox hb; replace HO0_0 := Aside0.mk (Kd.V_below (Kd.V_elderB (vA HO0_0.out) gb234 (Nat.le_of_eq hg.symm)) hb); have BK234 := Aside0.mk (hbox); have GW234 := Aside0.mk ((gw hg : w.heap.size ≤ gb234)); have GE234 := GW234; replace HB := bsA hb; clear hb hbox hg) | ((with_reducible refine gate_dst (N:=8) rfl ?_); refine bxe (N:=8) (cs := #[.slice none 0 0,.int .i64 0]) (t:=25) ?_; intro gb235 hg w30 hbox hb; replace HO0_0 := Aside0.mk (Kd.V_below (Kd.V_elderB (vA HO0_0.out) gb235 (Nat.le_of_eq hg.symm)) hb); have BK235 := Aside0.mk (hbox); have GW235 := Aside0.mk ((gw hg : w.heap.size ≤ gb235)); have GE235 := GW235; replace HB := bsA hb; have NB234_235 := Aside0.mk ((nl hg BK234.out)); have NB235_234 := Aside0.mk ((ng hg BK234.out)); replace BK234 := bbA BK234 hb; clear hb hbox hg; have hnb31 := NB234_235.out; have hnc31 := NB235_234.out; obtain ⟨hcz32_0,hcz32_1⟩ := cl2 BK234.out; obtain ⟨hfz32_0,hfz32_1⟩ := fz2 BK234.out) | ((with_reducible refine gate_callee (f:=48) rfl ?_); refine goesL_ (some 16) rfl rfl Try.func48 (by kernel_rfl) rfl #[.agg #[.slice A0_0 l0_0.length c0_0,.int .i64 a0_1],.string a1] rfl mA ?_; (with_reducible refine (spec_l01Get.calls k _ _ l0_0 a0_1 a1 t236 t237 _ ?side1 ?side2 A5.out).mono ?_); (case side1 => repeat (first | exact (Kd.V_reads' HO0_0.out).2.2 | (with_reducible refine Kd.C_alloc ?_ _) | (with_reducible refine Kd.C_drewN ?_ _) | (with_reducible refine Kd.C_drew ?_))); (case side2 => exact (Kd.V_reads' HO0_0.out).2.1); rintro e w33 ⟨rfl,hb⟩; refine ⟨_,rfl,?_⟩; replace HO0_0 := Aside0.mk (Kd.V_below (vA HO0_0.out) hb); replace BK234 := bbA BK234 hb; replace BK235 := bbA BK235 hb; replace HB := bsA hb; clear hb; obtain ⟨hcz34_0,hcz34_1⟩ := cl2 BK234.out; obtain ⟨hfz34_0,hfz34_1⟩ := fz2 BK234.out) | ((with_reducible refine gate_callee (f:=60) rfl ?_); refine goesL_ (some 29) rfl rfl Try.func60 (by kernel_rfl) rfl #[.agg #[.slice A0_0 l0_0.length c0_0,.int .i64 a0_1],.string a1,.string a3] rfl mA ?_; (with_reducible refine (spec_l01Room.calls k _ _ l0_0 a0_1 a1 a3 t238 _ ?side1 ?side2 A15.out).mono ?_); (case side1 => repeat (first | exact (Kd.V_reads' HO0_0.out).2.2 | (with_reducible refine Kd.C_alloc ?_ _) | (with_reducible refine Kd.C_drewN ?_ _) | (with_reducible refine Kd.C_drew ?_))); (case side2 => exact (Kd.V_reads' HO0_0.out).2.1); rintro e w35 ⟨rfl,hb⟩; refine ⟨_,rfl,?_⟩; replace HO0_0 := Aside0.mk (Kd.V_below (vA HO0_0.out) hb); replace BK234 := bbA BK234 hb; replace BK235 := bbA BK235 hb; replace HB := bsA hb; clear hb; obtain ⟨hcz36_0,hcz36_1⟩ := cl2 BK234.out; obtain ⟨hfz36_0,hfz36_1⟩ := fz2 BK234.out; obtain ⟨hcz37_0,hcz37_1⟩ := cl2 BK235.out; obtain ⟨hfz37_0,hfz37_1⟩ := fz2 BK235.out))
    refine bodyPost_ret (results_ct rfl _ _ gb235 25 #[.slice A0_0 l0_0.length c0_0,.int .i64 a0_1] (0,0) _ rfl (kP2 BK235.out) Try.underlying25 rfl (by kernel_rfl)) rfl ?_
    exact ⟨_,by first | rfl | (simp [errW_none,errW_some] <;> rfl) | (simp [*,errW_none,errW_some] <;> rfl),by (with_reducible repeat (first | apply Kd.V_alloc | apply Kd.V_drewN | apply Kd.V_drew)); exact Kd.V_mono (Kd.V_far (p:=⟨gb235,1,none⟩) (Kd.V_far (p:=⟨gb235,0,none⟩) (Kd.V_mono HO0_0.out (fun k_ hk => (⟨hk,hk.2⟩ : _ ∧ k_ ≠ gb235))) (fun _ hk => hk.2) (.slice A0_0 l0_0.length c0_0)) (fun _ hk => hk.2) (.int .i64 a0_1)) (fun _ hk => hk.1.1.1),bA⟩
  ·rw [if_neg c14] at H
   have c14b0 : (t237 == a2) = false := beq_eq_false_iff_ne.mpr c14
   have c14b1 : (t237 != a2) = true := bne_iff_ne.mpr c14
   simp only [Option.some.injEq,Prod.mk.injEq] at H
   obtain ⟨rfl,rfl,rfl⟩ := H
   go_enter Try.func49,Try.ntmps49
   go_wp2_with (first | ((with_reducible refine gate_dst (N:=4) rfl ?_); refine bxe (N:=4) (cs := #[.slice A0_0 l0_0.length c0_0,.int .i64 a0_1]) (t:=25) ?_; intro gb234 hg w38 hbox hb; replace HO0_0 := Aside0.mk (Kd.V_below (Kd.V_elderB (vA HO0_0.out) gb234 (Nat.le_of_eq hg.symm)) hb); have BK234 := Aside0.mk (hbox); have GW234 := Aside0.mk ((gw hg : w.heap.size ≤ gb234)); have GE234 := GW234; replace HB := bsA hb; clear hb hbox hg) | ((with_reducible refine gate_dst (N:=8) rfl ?_); refine bxe (N:=8) (cs := #[.slice none 0 0,.int .i64 0]) (t:=25) ?_; intro gb235 hg w39 hbox hb; replace HO0_0 := Aside0.mk (Kd.V_below (Kd.V_elderB (vA HO0_0.out) gb235 (Nat.le_of_eq hg.symm)) hb); have BK235 := Aside0.mk (hbox); have GW235 := Aside0.mk ((gw hg : w.heap.size ≤ gb235)); have GE235 := GW235; replace HB := bsA hb; have NB234_235 := Aside0.mk ((nl hg BK234.out)); have NB235_234 := Aside0.mk ((ng hg BK234.out)); replace BK234 := bbA BK234 hb; clear hb hbox hg; have hnb40 := NB234_235.out; have hnc40 := NB235_234.out; obtain ⟨hcz41_0,hcz41_1⟩ := cl2 BK234.out; obtain ⟨hfz41_0,hfz41_1⟩ := fz2 BK234.out) | ((with_reducible refine gate_callee (f:=48) rfl ?_); refine goesL_ (some 16) rfl rfl Try.func48 (by kernel_rfl) rfl #[.agg #[.slice A0_0 l0_0.length c0_0,.int .i64 a0_1],.string a1] rfl mA ?_; (with_reducible refine (spec_l01Get.calls k _ _ l0_0 a0_1 a1 t236 t237 _ ?side1 ?side2 A5.out).mono ?_); (case side1 => repeat (first | exact (Kd.V_reads' HO0_0.out).2.2 | (with_reducible refine Kd.C_alloc ?_ _) | (with_reducible refine Kd.C_drewN ?_ _) | (with_reducible refine Kd.C_drew ?_))); (case side2 => exact (Kd.V_reads' HO0_0.out).2.1); rintro e w42 ⟨rfl,hb⟩; refine ⟨_,rfl,?_⟩; replace HO0_0 := Aside0.mk (Kd.V_below (vA HO0_0.out) hb); replace BK234 := bbA BK234 hb; replace BK235 := bbA BK235 hb; replace HB := bsA hb; clear hb; obtain ⟨hcz43_0,hcz43_1⟩ := cl2 BK234.out; obtain ⟨hfz43_0,hfz43_1⟩ := fz2 BK234.out; obtain ⟨hcz44_0,hcz44_1⟩ := cl2 BK235.out; obtain ⟨hfz44_0,hfz44_1⟩ := fz2 BK235.out))
   refine bodyPost_ret (results_ct rfl _ _ gb235 25 #[.slice A0_0 l0_0.length c0_0,.int .i64 a0_1] (0,0) _ rfl (kP2 BK235.out) Try.underlying25 rfl (by kernel_rfl)) rfl ?_
   exact ⟨_,by first | rfl | (simp [errW_none,errW_some] <;> rfl) | (simp [*,errW_none,errW_some] <;> rfl),by (with_reducible repeat (first | apply Kd.V_alloc | apply Kd.V_drewN | apply Kd.V_drew)); exact Kd.V_mono (Kd.V_far (p:=⟨gb235,1,none⟩) (Kd.V_far (p:=⟨gb235,0,none⟩) (Kd.V_mono HO0_0.out (fun k_ hk => (⟨hk,hk.2⟩ : _ ∧ k_ ≠ gb235))) (fun _ hk => hk.2) (.slice A0_0 l0_0.length c0_0)) (fun _ hk => hk.2) (.int .i64 a0_1)) (fun _ hk => hk.1.1.1),bA⟩

/-! ### spec_l00Src_chance: function 50 -/
def spec_l00Src_chance.f (s0_0 : List Int) (s0_1 : Int) (s0_2 : Int) (a1 : Int) : Option (Bool × Int × Int) := (spec_l00Src_next.f s0_0 s0_1 s0_2 a1).bind fun bt243 => (some ((bt243.1 == (wrap64 (a1 - 1))),bt243.2.1,bt243.2.2))
set_option maxHeartbeats 8000000 in
set_option maxRecDepth 100000 in
theorem spec_l00Src_chance.calls (g : Nat) (s0_0 : List Int) (s0_1 : Int) (s0_2 : Int) (a1 : Int) (r1 : Bool) (r2 : Int) (r3 : Int) (w0 w : World) (hI : IsS68 w0 w g s0_0 s0_1 s0_2) (hB : Below w0.heap.size w0 w) (h : spec_l00Src_chance.f s0_0 s0_1 s0_2 a1 = some (r1,r2,r3)) :
  Calls Try.prog 50 #[.pointer (some ⟨g,0,none⟩),.int .i64 a1] w fun e w' => e = .returned (.bool r1) ∧ IsS68 w0 w' g s0_0 r2 r3 ∧ Below w0.heap.size w0 w' ∧ KeepBut w w' g none := by
 have HI0 := Aside0.mk hI
 have HK := Aside0.mk (KeepBut.refl w g none)
 have HL := Aside0.mk hB.size
 clear hI
 have HW0 := Aside0.mk hB.size
 have HB := Aside0.mk hB
 clear hB
 have H : ((spec_l00Src_next.f s0_0 s0_1 s0_2 a1).bind fun bt243 => (some ((bt243.1 == (wrap64 (a1 - 1))),bt243.2.1,bt243.2.2))) = some (r1,r2,r3) := h
 clear h
 replace H := Option.bind_eq_some_iff.mp H
 obtain ⟨⟨t243,t244,t245⟩,A30,H⟩ := H
 try dsimp only at H
 have A3 := Aside0.mk A30
 clear A30
 simp only [Option.some.injEq,Prod.mk.injEq] at H
 obtain ⟨rfl,rfl,rfl⟩ := H
 go_enter Try.func50,Try.ntmps50
 go_wp2_with (first | ((with_reducible refine gate_callee (f:=46) rfl ?_); refine goesL_ (some 7) rfl rfl Try.func46 (by kernel_rfl) rfl #[.pointer (some ⟨g,0,none⟩),.int .i64 a1] rfl mA ?_; (with_reducible refine (spec_l00Src_next.calls g s0_0 s0_1 s0_2 a1 t243 t244 t245 w0 _ ?side1 ?side2 A3.out).mono ?_); (case side1 => exact iS68); (case side2 => exact bI68); rintro e w4 ⟨rfl,hi,hb,hk⟩; refine ⟨_,rfl,?_⟩; replace HK := Aside0.mk (KeepBut.trans kK hk (.inl rfl)); replace HB := Aside0.mk (hb); replace HI0 := Aside0.mk (hi); clear hb hi hk))
 go_ret
 exact ⟨by first | rfl | (simp only [i64_w,i32_w] <;> rfl) | (simp [errW_none,errW_some] <;> rfl) | (simp [*,errW_none,errW_some] <;> rfl),by exact iS68,by exact bI68,by exact kK⟩

/-! ### spec_l01Delete: function 51 -/
def spec_l01Delete.f (k : Nat) (l0_0 : List (S32)) (a0_1 : Int) (a1 : ByteArray) (a2 : Int) : Option ((List (S32)) × Int × Int) := (spec_l01Find.f k l0_0 a0_1 a1).bind fun t248 => (if t248 < 0 then (some (l0_0,a0_1,5)) else (if 0 ≤ t248 then (if t248 < (l0_0.length : Int) then (if ((rd_T32 l0_0 t248).f1) = a2 then ((some (([] : List (S32)) : List (S32))).bind fun y250 => (if t248 ≤ (l0_0.length : Int) then ((some (l0_0.take (t248 : Int).toNat : List (S32))).bind fun y253 => (if y250.length + y253.length < 3518437208883 then ((some (y250 ++ y253 : List (S32))).bind fun y258 => (if 0 ≤ (wrap64 (t248 + 1)) then (if (wrap64 (t248 + 1)) ≤ (l0_0.length : Int) then ((some (l0_0.drop ((wrap64 (t248 + 1)) : Int).toNat : List (S32))).bind fun y261 => (if y258.length + y261.length < 3518437208883 then (some ((y258 ++ y261),a0_1,0)) else (none))) else (none)) else (none))) else (none))) else (none))) else (some (l0_0,a0_1,10))) else (none)) else (none)))
theorem spec_l01Delete.mono : ∀ a0 a1 a2 a3 k,LeO (spec_l01Delete.f k a0 a1 a2 a3) (spec_l01Delete.f (k + 1) a0 a1 a2 a3) := by
 intro a0 a1 a2 a3 k
 unfold spec_l01Delete.f
 repeat' first
 | (with_reducible first | exact spec_l01Find.mono .. | exact LeO.refl _ | exact LeO.none _ | refine LeO.ite ?_ ?_ | refine LeO.bind ?_ (fun _ => ?_))
 | exact LeO.none _ | refine LeO.ite ?_ ?_ | refine LeO.bind ?_ (fun _ => ?_)
def spec_l01Delete.T6 : Bool × List (List Nat × List Nat) := (true,[([],[]),([],[]),([1],[1]),([],[]),([2,3],[2,3]),([0,4],[0,4]),([],[]),([6],[6]),([],[]),([8],[8]),([7,9],[7,9]),([5,10,5],[5,10]),([0,1,2,3,4,5,6,7,8,9,10,11],[]),([12,11,11,0,1,2,3,4,5,6,7,8,9,10,11],[11,12])])
def spec_l01Delete.B6 : List Nat := [0,0,2,0,14,31,0,64,0,256,960,2047,4095,8191]
theorem spec_l01Delete.tab6 : rtab .any (opsOf Try.f51 6) = spec_l01Delete.T6 := by kernel_rfl
theorem spec_l01Delete.bits6 : waitsOk spec_l01Delete.T6.2 spec_l01Delete.B6 = true := by kernel_rfl
set_option maxHeartbeats 8000000 in
set_option maxRecDepth 100000 in
theorem spec_l01Delete.calls (k : Nat) (P0_0_ : Nat → Prop) (A0_0 : Option Addr) (c0_0 : Nat) (l0_0 : List (S32)) (a0_1 : Int) (a1 : ByteArray) (a2 : Int) (r1 : List (S32)) (r2 : Int) (r3 : Int) (w : World) (hs0_0 : Kd.V k32 32 w w.heap.size (fun k_ => P0_0_ k_) (.slice A0_0 l0_0.length c0_0) l0_0) (h : spec_l01Delete.f k l0_0 a0_1 a1 a2 = some (r1,r2,r3)) :
  Calls Try.prog 51 #[.agg #[.slice A0_0 l0_0.length c0_0,.int .i64 a0_1],.string a1,.int .i64 a2] w fun e w' => ∃ v0_ : Value,e = .returned (.tuple #[.agg #[v0_,.int .i64 r2],.int .i64 r3]) ∧ Kd.V k32 32 w' w.heap.size (fun k_ => (P0_0_ k_ ∨ w.heap.size ≤ k_)) v0_ r1 ∧ Below w.heap.size w w' := by
 have hu25 := Try.underlying25
 have HO0_0 := Aside0.mk (show Kd.V k32 32 w w.heap.size (fun k_ => (P0_0_ k_ ∨ w.heap.size ≤ k_)) (.slice A0_0 l0_0.length c0_0) l0_0 from Kd.V_mono hs0_0 (fun k_ hk => .inl hk))
 have HB := Aside0.mk (Below.refl w.heap.size w)
 have H : ((spec_l01Find.f k l0_0 a0_1 a1).bind fun t248 => (if t248 < 0 then (some (l0_0,a0_1,5)) else (if 0 ≤ t248 then (if t248 < (l0_0.length : Int) then (if ((rd_T32 l0_0 t248).f1) = a2 then ((some (([] : List (S32)) : List (S32))).bind fun y250 => (if t248 ≤ (l0_0.length : Int) then ((some (l0_0.take (t248 : Int).toNat : List (S32))).bind fun y253 => (if y250.length + y253.length < 3518437208883 then ((some (y250 ++ y253 : List (S32))).bind fun y258 => (if 0 ≤ (wrap64 (t248 + 1)) then (if (wrap64 (t248 + 1)) ≤ (l0_0.length : Int) then ((some (l0_0.drop ((wrap64 (t248 + 1)) : Int).toNat : List (S32))).bind fun y261 => (if y258.length + y261.length < 3518437208883 then (some ((y258 ++ y261),a0_1,0)) else (none))) else (none)) else (none))) else (none))) else (none))) else (some (l0_0,a0_1,10))) else (none)) else (none)))) = some (r1,r2,r3) := h
 clear h
 replace H := Option.bind_eq_some_iff.mp H
 obtain ⟨t248,A40,H⟩ := H
 try dsimp only at H
 have A4 := Aside0.mk A40
 clear A40
 by_cases c5 : t248 < 0
 ·rw [if_pos c5] at H
  have c5b0 : decide (t248 < 0) = true := decide_eq_true c5
  clear c5
  simp only [Option.some.injEq,Prod.mk.injEq] at H
  obtain ⟨rfl,rfl,rfl⟩ := H
  go_enter Try.func51,Try.ntmps51
  go_wp2_with (first | ((with_reducible refine gate_dst (N:=3) rfl ?_); refine bxe (N:=3) (cs := #[.slice A0_0 l0_0.length c0_0,.int .i64 a0_1]) (t:=25) ?_; intro gb246 hg w6 hbox hb; replace HO0_0 := Aside0.mk (Kd.V_below (Kd.V_elderB (vA HO0_0.out) gb246 (Nat.le_of_eq hg.symm)) hb); have BK246 := Aside0.mk (hbox); have GW246 := Aside0.mk ((gw hg : w.heap.size ≤ gb246)); have GE246 := GW246; replace HB := bsA hb; clear hb hbox hg) | ((with_reducible refine gate_dst (N:=6) rfl ?_); refine bxe (N:=6) (cs := #[.slice none 0 0,.int .i64 0]) (t:=25) ?_; intro gb247 hg w7 hbox hb; replace HO0_0 := Aside0.mk (Kd.V_below (Kd.V_elderB (vA HO0_0.out) gb247 (Nat.le_of_eq hg.symm)) hb); have BK247 := Aside0.mk (hbox); have GW247 := Aside0.mk ((gw hg : w.heap.size ≤ gb247)); have GE247 := GW247; replace HB := bsA hb; have NB246_247 := Aside0.mk ((nl hg BK246.out)); have NB247_246 := Aside0.mk ((ng hg BK246.out)); replace BK246 := bbA BK246 hb; clear hb hbox hg; have hnb8 := NB246_247.out; have hnc8 := NB247_246.out; obtain ⟨hcz9_0,hcz9_1⟩ := cl2 BK246.out; obtain ⟨hfz9_0,hfz9_1⟩ := fz2 BK246.out) | ((with_reducible refine gate_callee (f:=59) rfl ?_); refine goesL_ (some 11) rfl rfl Try.func59 (by kernel_rfl) rfl #[.agg #[.slice A0_0 l0_0.length c0_0,.int .i64 a0_1],.string a1] rfl mA ?_; (with_reducible refine (spec_l01Find.calls k _ _ l0_0 a0_1 a1 t248 _ ?side1 ?side2 A4.out).mono ?_); (case side1 => repeat (first | exact (Kd.V_reads' HO0_0.out).2.2 | (with_reducible refine Kd.C_alloc ?_ _) | (with_reducible refine Kd.C_drewN ?_ _) | (with_reducible refine Kd.C_drew ?_))); (case side2 => exact (Kd.V_reads' HO0_0.out).2.1); rintro e w10 ⟨rfl,hb⟩; refine ⟨_,rfl,?_⟩; replace HO0_0 := Aside0.mk (Kd.V_below (vA HO0_0.out) hb); replace BK246 := bbA BK246 hb; replace BK247 := bbA BK247 hb; replace HB := bsA hb; clear hb; obtain ⟨hcz11_0,hcz11_1⟩ := cl2 BK246.out; obtain ⟨hfz11_0,hfz11_1⟩ := fz2 BK246.out; obtain ⟨hcz12_0,hcz12_1⟩ := cl2 BK247.out; obtain ⟨hfz12_0,hfz12_1⟩ := fz2 BK247.out))
  refine bodyPost_ret (results_ct rfl _ _ gb247 25 #[.slice A0_0 l0_0.length c0_0,.int .i64 a0_1] (0,0) _ rfl (kP2 BK247.out) Try.underlying25 rfl (by kernel_rfl)) rfl ?_
  exact ⟨_,by first | rfl | (simp only [i64_w,i32_w] <;> rfl) | (simp [errW_none,errW_some] <;> rfl) | (simp [*,errW_none,errW_some] <;> rfl),by (with_reducible repeat (first | apply Kd.V_alloc | apply Kd.V_drewN | apply Kd.V_drew)); exact Kd.V_mono (Kd.V_far (p:=⟨gb247,1,none⟩) (Kd.V_far (p:=⟨gb247,0,none⟩) (Kd.V_mono HO0_0.out (fun k_ hk => (⟨hk,hk.2⟩ : _ ∧ k_ ≠ gb247))) (fun _ hk => hk.2) (.slice A0_0 l0_0.length c0_0)) (fun _ hk => hk.2) (.int .i64 a0_1)) (fun _ hk => hk.1.1.1),bA⟩
 ·rw [if_neg c5] at H
  have c5b0 : decide (t248 < 0) = false := decide_eq_false c5
  clear c5
  by_cases c13 : 0 ≤ t248
  ·rw [if_pos c13] at H
   have c13b0 : decide (0 ≤ t248) = true := decide_eq_true c13
   clear c13
   by_cases c14 : t248 < (l0_0.length : Int)
   ·rw [if_pos c14] at H
    have c14b0 : decide (t248 < (l0_0.length : Int)) = true := decide_eq_true c14
    clear c14
    by_cases c15 : ((rd_T32 l0_0 t248).f1) = a2
    ·rw [if_pos c15] at H
     have c15b0 : (((rd_T32 l0_0 t248).f1) == a2) = true := beq_iff_eq.mpr c15
     have c15b1 : (((rd_T32 l0_0 t248).f1) != a2) = false := bne_eq_false_iff_eq.mpr c15
     clear c15
     obtain ⟨y250,hy250⟩ : ∃ y_ : List (S32),y_ = (([] : List (S32))) := ⟨_,rfl⟩
     replace H : (if t248 ≤ (l0_0.length : Int) then ((some (l0_0.take (t248 : Int).toNat : List (S32))).bind fun y253 => (if y250.length + y253.length < 3518437208883 then ((some (y250 ++ y253 : List (S32))).bind fun y258 => (if 0 ≤ (wrap64 (t248 + 1)) then (if (wrap64 (t248 + 1)) ≤ (l0_0.length : Int) then ((some (l0_0.drop ((wrap64 (t248 + 1)) : Int).toNat : List (S32))).bind fun y261 => (if y258.length + y261.length < 3518437208883 then (some ((y258 ++ y261),a0_1,0)) else (none))) else (none)) else (none))) else (none))) else (none)) = some (r1,r2,r3) := by first | (rw [hy250]; with_reducible exact H) | (have H2_ := (Option.bind_some _ _).symm.trans H; rw [hy250]; with_reducible exact H2_) | (have H2_ := (Option.bind_some _ _).symm.trans H; with_reducible exact H2_) | with_reducible exact H | (rw [hy250]; exact H) | exact H
     have Ny250 := Aside0.mk hy250
     clear hy250
     have c16b0 := eq_true (od : 0 ≤ t248)
     by_cases c17 : t248 ≤ (l0_0.length : Int)
     ·rw [if_pos c17] at H
      have c17b0 := eq_true c17
      have c17b1 : decide (t248 ≤ (l0_0.length : Int)) = true := decide_eq_true c17
      clear c17
      obtain ⟨y253,hy253⟩ : ∃ y_ : List (S32),y_ = (l0_0.take (t248 : Int).toNat) := ⟨_,rfl⟩
      replace H : (if y250.length + y253.length < 3518437208883 then ((some (y250 ++ y253 : List (S32))).bind fun y258 => (if 0 ≤ (wrap64 (t248 + 1)) then (if (wrap64 (t248 + 1)) ≤ (l0_0.length : Int) then ((some (l0_0.drop ((wrap64 (t248 + 1)) : Int).toNat : List (S32))).bind fun y261 => (if y258.length + y261.length < 3518437208883 then (some ((y258 ++ y261),a0_1,0)) else (none))) else (none)) else (none))) else (none)) = some (r1,r2,r3) := by first | (rw [hy253]; with_reducible exact H) | (have H2_ := (Option.bind_some _ _).symm.trans H; rw [hy253]; with_reducible exact H2_) | (have H2_ := (Option.bind_some _ _).symm.trans H; with_reducible exact H2_) | with_reducible exact H | (rw [hy253]; exact H) | exact H
      have Ny253 := Aside0.mk hy253
      clear hy253
      by_cases c18 : y250.length + y253.length < 3518437208883
      ·rw [if_pos c18] at H
       have LMc18 := Aside0.mk c18
       clear c18
       obtain ⟨y258,hy258⟩ : ∃ y_ : List (S32),y_ = (y250 ++ y253) := ⟨_,rfl⟩
       replace H : (if 0 ≤ (wrap64 (t248 + 1)) then (if (wrap64 (t248 + 1)) ≤ (l0_0.length : Int) then ((some (l0_0.drop ((wrap64 (t248 + 1)) : Int).toNat : List (S32))).bind fun y261 => (if y258.length + y261.length < 3518437208883 then (some ((y258 ++ y261),a0_1,0)) else (none))) else (none)) else (none)) = some (r1,r2,r3) := by first | (rw [hy258]; with_reducible exact H) | (have H2_ := (Option.bind_some _ _).symm.trans H; rw [hy258]; with_reducible exact H2_) | (have H2_ := (Option.bind_some _ _).symm.trans H; with_reducible exact H2_) | with_reducible exact H | (rw [hy258]; exact H) | exact H
       have Ny258 := Aside0.mk hy258
       clear hy258
       obtain ⟨ji19,hji19⟩ : ∃ j_ : Int,(wrap64 (t248 + 1)) = j_ := ⟨_,rfl⟩
       replace H : (if 0 ≤ (ji19) then (if (ji19) ≤ (l0_0.length : Int) then ((some (l0_0.drop ((ji19) : Int).toNat : List (S32))).bind fun y261 => (if y258.length + y261.length < 3518437208883 then (some ((y258 ++ y261),a0_1,0)) else (none))) else (none)) else (none)) = some (r1,r2,r3) := by first | (rw [hji19] at H; exact H) | (simp only [hji19] at H ⊢; exact H)
       (try rw [hji19] at A4)
       have hji19w : (IntKind.i64.wrap (t248 + 1)) = ji19 := (i64_w _).trans hji19
       by_cases c20 : 0 ≤ (ji19)
       ·rw [if_pos c20] at H
        have c20b0 := eq_true c20
        have c20b1 : decide (0 ≤ (ji19)) = true := decide_eq_true c20
        clear c20
        by_cases c21 : (ji19) ≤ (l0_0.length : Int)
        ·rw [if_pos c21] at H
         have c21b0 := eq_true c21
         have c21b1 : decide ((ji19) ≤ (l0_0.length : Int)) = true := decide_eq_true c21
         clear c21
         obtain ⟨y261,hy261⟩ : ∃ y_ : List (S32),y_ = (l0_0.drop ((ji19) : Int).toNat) := ⟨_,rfl⟩
         replace H : (if y258.length + y261.length < 3518437208883 then (some ((y258 ++ y261),a0_1,0)) else (none)) = some (r1,r2,r3) := by first | (rw [hy261]; with_reducible exact H) | (have H2_ := (Option.bind_some _ _).symm.trans H; rw [hy261]; with_reducible exact H2_) | (have H2_ := (Option.bind_some _ _).symm.trans H; with_reducible exact H2_) | with_reducible exact H | (rw [hy261]; exact H) | exact H
         have Ny261 := Aside0.mk hy261
         clear hy261
         by_cases c22 : y258.length + y261.length < 3518437208883
         ·rw [if_pos c22] at H
          have LMc22 := Aside0.mk c22
          clear c22
          obtain ⟨y266,hy266⟩ : ∃ y_ : List (S32),y_ = (y258 ++ y261) := ⟨_,rfl⟩
          replace H : (some (y266,a0_1,0)) = some (r1,r2,r3) := by first | (rw [hy266]; with_reducible exact H) | (have H2_ := (Option.bind_some _ _).symm.trans H; rw [hy266]; with_reducible exact H2_) | (have H2_ := (Option.bind_some _ _).symm.trans H; with_reducible exact H2_) | with_reducible exact H | (rw [hy266]; exact H) | exact H
          have Ny266 := Aside0.mk hy266
          clear hy266
          simp only [Option.some.injEq,Prod.mk.injEq] at H
          obtain ⟨rfl,rfl,rfl⟩ := H
          go_enter Try.func51,Try.ntmps51
          try go_wp2_with (first | ((with_reducible refine gate_dst (N:=3) rfl ?_); refine bxe (N:=3) (cs := #[.slice A0_0 l0_0.length c0_0,.int .i64 a0_1]) (t:=25) ?_; intro gb246 hg w23 hbox hb; replace HO0_0 := Aside0.mk (Kd.V_below (Kd.V_elderB (vA HO0_0.out) gb246 (Nat.le_of_eq hg.symm)) hb); have BK246 := Aside0.mk (hbox); have GW246 := Aside0.mk ((gw hg : w.heap.size ≤ gb246)); have GE246 := GW246; replace HB := bsA hb; clear hb hbox hg) | ((with_reducible refine gate_dst (N:=6) rfl ?_); refine bxe (N:=6) (cs := #[.slice none 0 0,.int .i64 0]) (t:=25) ?_; intro gb247 hg w24 hbox hb; replace HO0_0 := Aside0.mk (Kd.V_below (Kd.V_elderB (vA HO0_0.out) gb247 (Nat.le_of_eq hg.symm)) hb); have BK247 := Aside0.mk (hbox); have GW247 := Aside0.mk ((gw hg : w.heap.size ≤ gb247)); have GE247 := GW247; replace HB := bsA hb; have NB246_247 := Aside0.mk ((nl hg BK246.out)); have NB247_246 := Aside0.mk ((ng hg BK246.out)); replace BK246 := bbA BK246 hb; clear hb hbox hg; have hnb25 := NB246_247.out; have hnc25 := NB247_246.out; obtain ⟨hcz26_0,hcz26_1⟩ := cl2 BK246.out; obtain ⟨hfz26_0,hfz26_1⟩ := fz2 BK246.out) | ((with_reducible refine gate_callee (f:=59) rfl ?_); refine goesL_ (some 11) rfl rfl Try.func59 (by kernel_rfl) rfl #[.agg #[.slice A0_0 l0_0.length c0_0,.int .i64 a0_1],.string a1] rfl mA ?_; (with_reducible refine (spec_l01Find.calls k _ _ l0_0 a0_1 a1 t248 _ ?side1 ?side2 A4.out).mono ?_); (case side1 => repeat (first | exact (Kd.V_reads' HO0_0.out).2.2 | (with_reducible refine Kd.C_alloc ?_ _) | (with_reducible refine Kd.C_drewN ?_ _) | (with_reducible refine Kd.C_drew ?_))); (case side2 => exact (Kd.V_reads' HO0_0.out).2.1); rintro e w27 ⟨rfl,hb⟩; refine ⟨_,rfl,?_⟩; replace HO0_0 := Aside0.mk (Kd.V_below (vA HO0_0.out) hb); replace BK246 := bbA BK246 hb; replace BK247 := bbA BK247 hb; replace HB := bsA hb; clear hb; obtain ⟨hcz28_0,hcz28_1⟩ := cl2 BK246.out; obtain ⟨hfz28_0,hfz28_1⟩ := fz2 BK246.out; have p249 : 0 ≤ (t248 : Int) := od; have q249 : t248 < (l0_0.length : Int) := od; obtain ⟨ad249,e249,hx249_0,hx249_1,hx249_2⟩ := at_T32 (Kd.V_reads' HO0_0.out).2.2 t248 p249 q249; cases e249; replace p249 := eq_true p249; replace q249 := eq_true q249))
          replace HO0_0 := Aside0.mk (Kd.V_drew HO0_0.out)
          replace BK246 := Aside0.mk (blk_drew BK246.out)
          replace BK247 := Aside0.mk (blk_drew BK247.out)
          replace HB := Aside0.mk (below_drew1 HB.out)
          have q30 : (t248 : Int) ≤ ((l0_0.length : Int) : Int) := od
          obtain ⟨i030,hi030,_,hsz30,_⟩ := info_parts info32
          have hroom30 : l0_0.length ≤ c0_0 := (Kd.V_reads' HO0_0.out).2.1
          have hC30 : Kd.F k32 _ _ (some ad249) l0_0.length l0_0 := (Kd.V_at (base := w.heap.size) HO0_0.out).2.2
          have hcut30 := cut_to (P:=Try.prog) 23 32 .i64 Try.underlying23 hi030 (some ad249) l0_0.length c0_0 t248 (od) q30 hroom30
          have hr30 := Kd.F_take (m:=(t248 : Int).toNat) hC30 (by omega)
          have hy30 : y253.length = (t248 : Int).toNat := (by rw [Ny253.out,List.length_take]; omega)
          rw [← Ny253.out] at hr30
          rw [← hy30] at hcut30
          have HO257 := Aside0.mk (show Kd.V k32 32 _ w.heap.size _ (.slice (some ad249) y253.length c0_0) y253 from Kd.V_mk (by omega) hr30)
          have HC257 := Aside0.mk (show y253.length ≤ c0_0 from by omega)
          clear hr30 hC30 hroom30 hi030 hsz30
          have KY30 := Aside0.mk hy30
          clear hy30
          replace q30 := eq_true q30
          have q31 : ((ji19) : Int) ≤ ((l0_0.length : Int) : Int) := od
          obtain ⟨i031,hi031,_,hsz31,_⟩ := info_parts info32
          have hroom31 : l0_0.length ≤ c0_0 := (Kd.V_reads' HO0_0.out).2.1
          have hC31 : Kd.F k32 _ _ (some ad249) l0_0.length l0_0 := (Kd.V_at (base := w.heap.size) HO0_0.out).2.2
          have q031 : (0 : Int) ≤ ((ji19) : Int) := od
          have hcut31 := cut_from (P:=Try.prog) 23 32 .i64 Try.underlying23 hi031 3 hsz31 (some ad249) l0_0.length c0_0 (ji19) q031 q31
          have hr31 := Kd.F_cut (m:=((ji19) : Int).toNat) (c:=c0_0) hC31 (by omega) hroom31
          obtain ⟨A31,hA31⟩ : ∃ A1,A1 = (if c0_0 = ((ji19) : Int).toNat then (some ad249) else ((some ad249) : Option Addr).map (·.add (((ji19) : Int).toNat * 3))) := ⟨_,rfl⟩
          obtain ⟨c31,hc31⟩ : ∃ c1,c1 = c0_0 - ((ji19) : Int).toNat := ⟨_,rfl⟩
          have hy31 : y261.length = l0_0.length - ((ji19) : Int).toNat := (by rw [Ny261.out,List.length_drop] <;> omega)
          rw [show (l0_0).drop ((ji19) : Int).toNat = y261 from Ny261.out.symm] at hr31
          replace hr31 : Kd.F k32 _ _ A31 y261.length y261 := (by rw [hA31]; exact hr31)
          rw [← hy31,← hA31,← hc31] at hcut31
          have HO265 := Aside0.mk (show Kd.V k32 32 _ w.heap.size _ (.slice A31 y261.length c31) y261 from Kd.V_mk (by rw [hy31,hc31]; exact Nat.sub_le_sub_right hroom31 _) hr31)
          have HC265 := Aside0.mk (show y261.length ≤ c31 from by rw [hy31,hc31]; exact Nat.sub_le_sub_right hroom31 _)
          clear hr31 hC31 hroom31 hi031 hsz31 hc31
          have KY31 := Aside0.mk hy31
          have KA31 := Aside0.mk hA31
          clear hy31 hA31
          replace q31 := eq_true q31
          refine start_ (n:=14) (S:=fun w' => w'.cell? ⟨gb246,0,none⟩ = some (.slice (some ad249) l0_0.length c0_0) ∧ w'.cell? ⟨gb246,1,none⟩ = some (.int .i64 a0_1)) (ds := [13]) (bm 14 0) (by kernel_rfl) rfl rfl ⟨bl BK246 0,bl BK246 1⟩ (fun hHeld => ?_); refine with_tabW spec_l01Delete.tab6 spec_l01Delete.bits6 (fun HT_ HW_ => ?_)
          generalize w27.drew = w29 at HO0_0 BK246 BK247 HB HO257 HO265 hHeld ⊢
          refine pV_ 1 25 (bm 14 2) HT_.out ?_
          refine pV_ 3 27 (bm 14 10) HT_.out ?_
          refine pV_ 6 30 (bm 14 74) HT_.out ?_
          refine pV_ 8 32 (bm 14 330) HT_.out ?_
          refine pV_ 9 33 (bm 14 842) HT_.out ?_
          refine tk 2 26 (bm 14 846) HT_.out HW_.out hHeld ?_
          refine pV_ 4 28 (bm 14 862) HT_.out ?_
          refine tk 7 31 (bm 14 990) HT_.out HW_.out hHeld ?_
          refine pV_ 10 34 (bm 14 2014) HT_.out ?_
          refine one_ (i:=0) (N:=some 24) (bm 14 2015) rfl rfl (one_of HT_.out (by kernel_rfl)) (by decide) (fun K hK => ?_)
          refine Kd.R_lit_step k32 _ 32 ?hg (N:=24) ?hd (xs := ([] : List (S32))) (inner := []) (ok := fun _ => True) (okp := fun _ => True) ?hr ?hp (fun _ hk => hk) trivial (Below.refl _ _) (Nat.le_refl _) (by simp) ?_; (case hd => rfl); (case hg => rfl); (case hr => first | (go_simp; done) | (go_simp; rfl)); (case hp => exact (Reps.none _ _))
          intro v251 w32 ho33 hb hg_ hnew_
          clear hg_ hnew_
          (first | rw [← Ny250.out] at ho33 | (simp only [Int.reduceToNat] at ho33; rw [← Ny250.out] at ho33))
          replace HO0_0 := Aside0.mk (Kd.V_elder' (vA HO0_0.out) (Kd.R_base ho33) hb)
          replace HO257 := Aside0.mk (Kd.V_elder' (vA HO257.out) (Kd.R_base ho33) hb)
          replace HO265 := Aside0.mk (Kd.V_elder' (vA HO265.out) (Kd.R_base ho33) hb)
          have HO252 := Aside0.mk (Kd.R_lower (Kd.R_newM (M:=fun k_ => (w.heap.size ≤ k_)) ho33 (below_size bA) (fun k_ h_ => h_)) (below_size bA))
          replace BK246 := bbA BK246 hb
          replace BK247 := bbA BK247 hb
          replace HB := bsA hb
          clear hb ho33
          refine hK.out _ _ ⟨bl BK246 0,bl BK246 1⟩ (fun hHeld => ?_)
          clear hK K
          refine nw 24 ?_
          refine one_ (i:=5) (N:=some 29) (bm 14 2047) rfl rfl (one_of HT_.out (by kernel_rfl)) (by decide) (fun K hK => ?_)
          refine Kd.R_append_rows_step k32 (w0 := w) w.heap.size (by rfl) (.tmp 24) (.tmp 28) 23 32 (.agg #[(.string ⟨#[]⟩),(.int .i64 0),(.string ⟨#[]⟩)]) 40 rfl Try.underlying23 info32 rfl (by decide) (by omega) v251 y250 y253 _ _ _ (fun k_ => (w.heap.size ≤ k_)) (fun _ => False) rfl rfl ?aO ?aR (fun _ _ h => h) (fun _ h => h.elim) ?aF ?aB ?aS ?aL ?_
          (case aR => repeat (first | exact (Kd.V_reads' HO257.out).2.2 | (with_reducible refine Kd.C_alloc ?_ _) | (with_reducible refine Kd.C_drewN ?_ _) | (with_reducible refine Kd.C_drew ?_)))
          (case aB => exact bA)
          (case aF => exact (fun k_ hk => (Nat.le_trans (below_size bA) hk)))
          (case aO => exact (rM HO252.out (fun _ hk => hk.1)))
          (case aS => exact (below_size bA))
          (case aL => have := LMc18.out; omega)
          intro v259 w34 ho hb hg hat
          rw [← Ny258.out] at ho
          replace HO0_0 := Aside0.mk (Kd.V_afterv (ok := (fun k_ => (P0_0_ k_ ∨ w.heap.size ≤ k_) ∧ k_ ≠ gb246 ∧ k_ ≠ gb247)) (vM HO0_0.out (fun _ hk => ⟨⟨hk.1.1.1,⟨hk.1.1.2,hk.1.2⟩⟩,hk.2⟩)) hg hat)
          replace BK246 := Aside0.mk (bg BK246.out hg (Kd.R_ne HO252.out BK246.out (by decide)))
          replace BK247 := Aside0.mk (bg BK247.out hg (Kd.R_ne HO252.out BK247.out (by decide)))
          replace HO257 := Aside0.mk (Kd.V_afterv (ok := (fun k_ => (P0_0_ k_ ∨ w.heap.size ≤ k_) ∧ k_ ≠ gb246 ∧ k_ ≠ gb247)) (vM HO257.out (fun _ hk => ⟨⟨hk.1.1.1,⟨hk.1.1.2,hk.1.2⟩⟩,hk.2⟩)) hg hat)
          replace HO265 := Aside0.mk (Kd.V_afterv (ok := (fun k_ => (P0_0_ k_ ∨ w.heap.size ≤ k_) ∧ k_ ≠ gb246 ∧ k_ ≠ gb247)) (vM HO265.out (fun _ hk => ⟨⟨hk.1.1.1,⟨hk.1.1.2,hk.1.2⟩⟩,hk.2⟩)) hg hat)
          replace HB := Aside0.mk (hb)
          have HO260 := Aside0.mk (ho)
          clear HO252 ho hb hg hat
          refine hK.out _ _ ⟨bl BK246 0,bl BK246 1⟩ (fun hHeld => ?_)
          clear hK K
          refine nw 29 ?_
          refine one_ (i:=11) (N:=some 35) (bm 14 4095) rfl rfl (one_of HT_.out (by kernel_rfl)) (by decide) (fun K hK => ?_)
          refine Kd.R_append_rows_step k32 (w0 := w) w.heap.size (by rfl) (.tmp 29) (.tmp 34) 23 32 (.agg #[(.string ⟨#[]⟩),(.int .i64 0),(.string ⟨#[]⟩)]) 40 rfl Try.underlying23 info32 rfl (by decide) (by omega) v259 y258 y261 _ _ _ (fun k_ => (w.heap.size ≤ k_)) (fun _ => False) rfl rfl ?aO ?aR (fun _ _ h => h) (fun _ h => h.elim) ?aF ?aB ?aS ?aL ?_
          (case aR => repeat (first | exact (Kd.V_reads' HO265.out).2.2 | (with_reducible refine Kd.C_alloc ?_ _) | (with_reducible refine Kd.C_drewN ?_ _) | (with_reducible refine Kd.C_drew ?_)))
          (case aB => exact bA)
          (case aF => exact (fun k_ hk => (Nat.le_trans (below_size bA) hk)))
          (case aO => exact (rA HO260.out))
          (case aS => exact (below_size bA))
          (case aL => have := LMc22.out; omega)
          intro v267 w35 ho hb hg hat
          rw [← Ny266.out] at ho
          replace HO0_0 := Aside0.mk (Kd.V_afterv (ok := (fun k_ => (P0_0_ k_ ∨ w.heap.size ≤ k_) ∧ k_ ≠ gb246 ∧ k_ ≠ gb247)) (vA HO0_0.out) hg hat)
          replace BK246 := Aside0.mk (bg BK246.out hg (Kd.R_ne HO260.out BK246.out (by decide)))
          replace BK247 := Aside0.mk (bg BK247.out hg (Kd.R_ne HO260.out BK247.out (by decide)))
          replace HO257 := Aside0.mk (Kd.V_afterv (ok := (fun k_ => (P0_0_ k_ ∨ w.heap.size ≤ k_) ∧ k_ ≠ gb246 ∧ k_ ≠ gb247)) (vA HO257.out) hg hat)
          replace HO265 := Aside0.mk (Kd.V_afterv (ok := (fun k_ => (P0_0_ k_ ∨ w.heap.size ≤ k_) ∧ k_ ≠ gb246 ∧ k_ ≠ gb247)) (vA HO265.out) hg hat)
          replace HB := Aside0.mk (hb)
          have HO268 := Aside0.mk (ho)
          clear HO260 ho hb hg hat
          obtain ⟨Ao36,co36,eo36⟩ := Kd.R_slice HO268.out
          (first | subst eo36 | (injection eo36 with f1_ f2_ f3_; have f4_ := f1_.symm; have f5_ := f3_.symm; clear f1_ f2_ f3_; subst f4_; subst f5_))
          refine hK.out _ _ ⟨bl BK246 0,bl BK246 1⟩ (fun hHeld => ?_)
          clear hK K
          refine nw 35 ?_
          refine pV_ 12 36 (bm 14 8191) HT_.out ?_
          refine last_ (i:=13) (N:=none) (bm 14 16383) rfl rfl (one_of HT_.out (by kernel_rfl)) (by decide) (fun K hK => ?_)
          have hs37 : w35.cell? ⟨gb246,0,none⟩ = some (.slice (some ad249) l0_0.length c0_0) := bl BK246 0
          have hfs37 := blk_frozen BK246.out 0
          have hns37_1 := NB247_246.out
          have hms37_1 := NB246_247.out
          refine skip_ (w1 := ?_) (by rfl) rfl ?_ ?_
          rotate_left
          ·go_simp
           rfl
          refine hK.out _ _ ?_
          clear hK K
          refine done_ (done_of HT_.out (by kernel_rfl)) ?_
          obtain ⟨hcz38_0,hcz38_1⟩ := cl2 BK246.out
          obtain ⟨hfz38_0,hfz38_1⟩ := fz2 BK246.out
          obtain ⟨hcz39_0,hcz39_1⟩ := cl2 BK247.out
          obtain ⟨hfz39_0,hfz39_1⟩ := fz2 BK247.out
          try go_wp2
          refine bodyPost_ret (results_ct rfl _ _ gb247 25 #[.slice Ao36 y266.length co36,.int .i64 a0_1] (0,0) _ rfl (by (with_reducible repeat (first | refine blk_drewN ?_ _ | refine blk_drew ?_ | refine blk_alloc ?_ _)); apply blkp2; (with_reducible repeat (first | refine blk_drewN ?_ _ | refine blk_drew ?_ | refine blk_alloc ?_ _)); refine blk_far ?_ NB247_246.out _; (with_reducible repeat (first | refine blk_drewN ?_ _ | refine blk_drew ?_ | refine blk_alloc ?_ _)); exact BK247.out) Try.underlying25 rfl (by kernel_rfl)) rfl ?_
          exact ⟨_,by first | rfl | (simp only [i64_w,i32_w] <;> rfl) | (simp [errW_none,errW_some] <;> rfl) | (simp only [← hji19]; first | rfl | (simp [errW_none,errW_some] <;> rfl)) | (simp [*,errW_none,errW_some] <;> rfl),Kd.V_mono (Kd.R_V (by (with_reducible repeat (first | apply Kd.R_alloc | apply Kd.R_drewN | apply Kd.R_drew)); exact Kd.R_mono (Kd.R_far (p:=⟨gb247,1,none⟩) (Kd.R_far (p:=⟨gb247,0,none⟩) (Kd.R_far (p:=⟨gb246,0,none⟩) (Kd.R_types (Kd.R_types HO268.out BK246.out (by decide)) BK247.out (by decide)) (fun _ hk => hk.1.2) (.slice Ao36 y266.length co36)) (fun _ hk => hk.2) (.slice Ao36 y266.length co36)) (fun _ hk => hk.2) (.int .i64 a0_1)) (fun _ hk => hk.1.1))) (fun k_ hk => by first | exact ⟨(.inr (hk.1)),hk.2⟩ | exact (.inr (hk))),bA⟩
         ·rw [if_neg c22] at H
          exact absurd H (by simp)
        ·rw [if_neg c21] at H
         exact absurd H (by simp)
       ·rw [if_neg c20] at H
        exact absurd H (by simp)
      ·rw [if_neg c18] at H
       exact absurd H (by simp)
     ·rw [if_neg c17] at H
      exact absurd H (by simp)
    ·rw [if_neg c15] at H
     have c15b0 : (((rd_T32 l0_0 t248).f1) == a2) = false := beq_eq_false_iff_ne.mpr c15
     have c15b1 : (((rd_T32 l0_0 t248).f1) != a2) = true := bne_iff_ne.mpr c15
     simp only [Option.some.injEq,Prod.mk.injEq] at H
     obtain ⟨rfl,rfl,rfl⟩ := H
     go_enter Try.func51,Try.ntmps51
     go_wp2_with (first | ((with_reducible refine gate_dst (N:=3) rfl ?_); refine bxe (N:=3) (cs := #[.slice A0_0 l0_0.length c0_0,.int .i64 a0_1]) (t:=25) ?_; intro gb246 hg w40 hbox hb; replace HO0_0 := Aside0.mk (Kd.V_below (Kd.V_elderB (vA HO0_0.out) gb246 (Nat.le_of_eq hg.symm)) hb); have BK246 := Aside0.mk (hbox); have GW246 := Aside0.mk ((gw hg : w.heap.size ≤ gb246)); have GE246 := GW246; replace HB := bsA hb; clear hb hbox hg) | ((with_reducible refine gate_dst (N:=6) rfl ?_); refine bxe (N:=6) (cs := #[.slice none 0 0,.int .i64 0]) (t:=25) ?_; intro gb247 hg w41 hbox hb; replace HO0_0 := Aside0.mk (Kd.V_below (Kd.V_elderB (vA HO0_0.out) gb247 (Nat.le_of_eq hg.symm)) hb); have BK247 := Aside0.mk (hbox); have GW247 := Aside0.mk ((gw hg : w.heap.size ≤ gb247)); have GE247 := GW247; replace HB := bsA hb; have NB246_247 := Aside0.mk ((nl hg BK246.out)); have NB247_246 := Aside0.mk ((ng hg BK246.out)); replace BK246 := bbA BK246 hb; clear hb hbox hg; have hnb42 := NB246_247.out; have hnc42 := NB247_246.out; obtain ⟨hcz43_0,hcz43_1⟩ := cl2 BK246.out; obtain ⟨hfz43_0,hfz43_1⟩ := fz2 BK246.out) | ((with_reducible refine gate_callee (f:=59) rfl ?_); refine goesL_ (some 11) rfl rfl Try.func59 (by kernel_rfl) rfl #[.agg #[.slice A0_0 l0_0.length c0_0,.int .i64 a0_1],.string a1] rfl mA ?_; (with_reducible refine (spec_l01Find.calls k _ _ l0_0 a0_1 a1 t248 _ ?side1 ?side2 A4.out).mono ?_); (case side1 => repeat (first | exact (Kd.V_reads' HO0_0.out).2.2 | (with_reducible refine Kd.C_alloc ?_ _) | (with_reducible refine Kd.C_drewN ?_ _) | (with_reducible refine Kd.C_drew ?_))); (case side2 => exact (Kd.V_reads' HO0_0.out).2.1); rintro e w44 ⟨rfl,hb⟩; refine ⟨_,rfl,?_⟩; replace HO0_0 := Aside0.mk (Kd.V_below (vA HO0_0.out) hb); replace BK246 := bbA BK246 hb; replace BK247 := bbA BK247 hb; replace HB := bsA hb; clear hb; obtain ⟨hcz45_0,hcz45_1⟩ := cl2 BK246.out; obtain ⟨hfz45_0,hfz45_1⟩ := fz2 BK246.out; have p249 : 0 ≤ (t248 : Int) := od; have q249 : t248 < (l0_0.length : Int) := od; obtain ⟨ad249,e249,hx249_0,hx249_1,hx249_2⟩ := at_T32 (Kd.V_reads' HO0_0.out).2.2 t248 p249 q249; cases e249; replace p249 := eq_true p249; replace q249 := eq_true q249; obtain ⟨hcz46_0,hcz46_1⟩ := cl2 BK247.out; obtain ⟨hfz46_0,hfz46_1⟩ := fz2 BK247.out))
     refine bodyPost_ret (results_ct rfl _ _ gb247 25 #[.slice (some ad249) l0_0.length c0_0,.int .i64 a0_1] (0,0) _ rfl (kP2 BK247.out) Try.underlying25 rfl (by kernel_rfl)) rfl ?_
     exact ⟨_,by first | rfl | (simp only [i64_w,i32_w] <;> rfl) | (simp [errW_none,errW_some] <;> rfl) | (simp [*,errW_none,errW_some] <;> rfl),by (with_reducible repeat (first | apply Kd.V_alloc | apply Kd.V_drewN | apply Kd.V_drew)); exact Kd.V_mono (Kd.V_far (p:=⟨gb247,1,none⟩) (Kd.V_far (p:=⟨gb247,0,none⟩) (Kd.V_mono HO0_0.out (fun k_ hk => (⟨hk,hk.2⟩ : _ ∧ k_ ≠ gb247))) (fun _ hk => hk.2) (.slice (some ad249) l0_0.length c0_0)) (fun _ hk => hk.2) (.int .i64 a0_1)) (fun _ hk => hk.1.1.1),bA⟩
   ·rw [if_neg c14] at H
    exact absurd H (by simp)
  ·rw [if_neg c13] at H
   exact absurd H (by simp)

end Go.Proofs.Ytgkfemnfbkgeiaa.XFnStore
