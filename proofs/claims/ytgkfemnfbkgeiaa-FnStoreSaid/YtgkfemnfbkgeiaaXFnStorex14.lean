-- Printed by this session's own program wip/tools/xprint.py, which widens the kit's print. Not trusted: Lean checks it.
import Derived.Test.YtgkfemnfbkgeiaaXFnStorex0
import Derived.Test.YtgkfemnfbkgeiaaXFnStorex6
import Derived.Test.YtgkfemnfbkgeiaaXFnStorex8
namespace Go.Proofs.Ytgkfemnfbkgeiaa.XFnStore
open Go.RowKit Go.Proofs.YtgkfemnfbkgeiaaW.PrintWords Go.Proofs.YtgkfemnfbkgeiaaW.PrintLast Go.Proofs.YtgkfemnfbkgeiaaW.PrintMore
attribute [local go_sem] max2_int min2_int max_two min_two max_three min_three max_four min_four   -- for this text's walks alone
set_option linter.unusedVariables false
set_option linter.unusedSimpArgs false

/-! ### impl_Store_versionCode: function 41 -/
def impl_Store_versionCode.f (k : Nat) (l0_0 : List (S32)) (a0_1 : Int) (a1 : ByteArray) (a2 : Int) : Option (Int) := (impl_Store_find.f l0_0 a0_1 a1).bind fun bt470 => (if bt470.2 = true then (if 0 ≤ bt470.1 then (if bt470.1 < (l0_0.length : Int) then ((impl_first.f k (([anyB (((rd_T32 l0_0 bt470.1).f1) != a2),anyI 10] : List AnyV))).bind fun t476 => (some t476)) else (none)) else (none)) else (some 5))
theorem impl_Store_versionCode.mono : ∀ a0 a1 a2 a3 k,LeO (impl_Store_versionCode.f k a0 a1 a2 a3) (impl_Store_versionCode.f (k + 1) a0 a1 a2 a3) := by
 intro a0 a1 a2 a3 k
 unfold impl_Store_versionCode.f
 repeat' first
 | (with_reducible first | exact impl_first.mono .. | exact LeO.refl _ | exact LeO.none _ | refine LeO.ite ?_ ?_ | refine LeO.bind ?_ (fun _ => ?_))
 | exact LeO.none _ | refine LeO.ite ?_ ?_ | refine LeO.bind ?_ (fun _ => ?_)
set_option maxHeartbeats 8000000 in
set_option maxRecDepth 100000 in
theorem impl_Store_versionCode.calls (k : Nat) (A0_0 : Option Addr) (c0_0 : Nat) (l0_0 : List (S32)) (a0_1 : Int) (a1 : ByteArray) (a2 : Int) (r : Int) (w : World) (hr0_0 : Kd.C k32 w A0_0 l0_0.length l0_0) (hc0_0 : l0_0.length ≤ c0_0) (h : impl_Store_versionCode.f k l0_0 a0_1 a1 a2 = some r) :
  Calls Try.prog 41 #[.agg #[.slice A0_0 l0_0.length c0_0,.int .i64 a0_1],.string a1,.int .i64 a2] w fun e w' => e = .returned (.int .i64 r) ∧ Below w.heap.size w w' := by
 have hu25 := Try.underlying25
 have hua20 := Try.underlying20
 have HR0_0 := Aside0.mk hr0_0
 have HC0_0 := Aside0.mk hc0_0
 clear hr0_0 hc0_0
 have HB := Aside0.mk (Below.refl w.heap.size w)
 have H : ((impl_Store_find.f l0_0 a0_1 a1).bind fun bt470 => (if bt470.2 = true then (if 0 ≤ bt470.1 then (if bt470.1 < (l0_0.length : Int) then ((impl_first.f k (([anyB (((rd_T32 l0_0 bt470.1).f1) != a2),anyI 10] : List AnyV))).bind fun t476 => (some t476)) else (none)) else (none)) else (some 5))) = some r := h
 clear h
 replace H := Option.bind_eq_some_iff.mp H
 obtain ⟨⟨t470,t471⟩,A40,H⟩ := H
 try dsimp only at H
 have A4 := Aside0.mk A40
 clear A40
 by_cases c5 : t471 = true
 ·subst c5
  rw [if_pos rfl] at H
  by_cases c6 : 0 ≤ t470
  ·rw [if_pos c6] at H
   have c6b0 : decide (0 ≤ t470) = true := decide_eq_true c6
   clear c6
   by_cases c7 : t470 < (l0_0.length : Int)
   ·rw [if_pos c7] at H
    have c7b0 : decide (t470 < (l0_0.length : Int)) = true := decide_eq_true c7
    clear c7
    obtain ⟨y473,hy473⟩ : ∃ y_ : List AnyV,y_ = (([anyB (((rd_T32 l0_0 t470).f1) != a2),anyI 10] : List AnyV)) := ⟨_,rfl⟩
    replace H : ((impl_first.f k y473).bind fun t476 => (some t476)) = some r := by first | (rw [hy473]; with_reducible exact H) | (have H2_ := (Option.bind_some _ _).symm.trans H; rw [hy473]; with_reducible exact H2_) | (have H2_ := (Option.bind_some _ _).symm.trans H; with_reducible exact H2_) | with_reducible exact H | (rw [hy473]; exact H) | exact H
    have Ny473 := Aside0.mk hy473
    clear hy473
    replace H := Option.bind_eq_some_iff.mp H
    obtain ⟨t476,A80,H⟩ := H
    try dsimp only at H
    have A8 := Aside0.mk A80
    clear A80
    obtain rfl := Option.some.inj H
    go_enter Try.func41,Try.ntmps41
    go_wp2_with (first | ((with_reducible refine gate_dst (N:=3) rfl ?_); refine bxe (N:=3) (cs := #[.slice A0_0 l0_0.length c0_0,.int .i64 a0_1]) (t:=25) ?_; intro gb469 hg w9 hbox hb; have BK469 := Aside0.mk (hbox); have GW469 := Aside0.mk ((gw hg : w.heap.size ≤ gb469)); have GE469 := GW469; replace HB := bsA hb; clear hb hbox hg; obtain ⟨hcz10_0,hcz10_1⟩ := cl2 BK469.out; obtain ⟨hfz10_0,hfz10_1⟩ := fz2 BK469.out) | ((with_reducible refine gate_callee (f:=40) rfl ?_); refine goesL_ (some 12) rfl rfl Try.func40 (by kernel_rfl) rfl #[.agg #[.slice A0_0 l0_0.length c0_0,.int .i64 a0_1],.string a1] rfl mA ?_; (with_reducible refine (impl_Store_find.calls _ _ l0_0 a0_1 a1 t470 true _ ?side1 ?side2 A4.out).mono ?_); (case side1 => exact sC HR0_0.out); (case side2 => exact HC0_0.out); rintro e w11 ⟨rfl,hb⟩; refine ⟨_,rfl,?_⟩; replace BK469 := bbA BK469 hb; replace HB := bsA hb; clear hb; obtain ⟨hcz12_0,hcz12_1⟩ := cl2 BK469.out; obtain ⟨hfz12_0,hfz12_1⟩ := fz2 BK469.out; have p472 : 0 ≤ (t470 : Int) := od; have q472 : t470 < (l0_0.length : Int) := od; obtain ⟨ad472,e472,hx472_0,hx472_1,hx472_2⟩ := at_T32 HR0_0.out t470 p472 q472; cases e472; replace hx472_0 := cb HB.out hx472_0; replace hx472_1 := cb HB.out hx472_1; replace hx472_2 := cb HB.out hx472_2; replace p472 := eq_true p472; replace q472 := eq_true q472) | ((with_reducible refine gate_dst (N:=27) rfl ?_); refine Kd.R_lit kAny _ 20 ?hg (N:=27) ?hd (xs := ([anyB (((rd_T32 l0_0 t470).f1) != a2),anyI 10] : List AnyV)) (inner := [.iface 4 (.bool (((rd_T32 l0_0 t470).f1) != a2)),.iface 3 (.int .i64 10)]) (ok := fun _ => True) (okp := fun _ => True) ?hr ?hp (fun _ hk => hk) trivial (Below.refl _ _) (Nat.le_refl _) (by simp) ?_; (case hd => rfl); (case hg => rfl); (case hr => first | (go_simp; done) | (go_simp; rfl)); (case hp => exact (Reps.one (show Kd.M kAny _ _ _ (anyB (((rd_T32 l0_0 t470).f1) != a2)) [.iface 4 (.bool (((rd_T32 l0_0 t470).f1) != a2))] from rfl) (Reps.one (show Kd.M kAny _ _ _ (anyI 10) [.iface 3 (.int .i64 10)] from rfl) (Reps.none _ _)))); intro v474 w13 ho14 hb hg_ hnew_; clear hg_ hnew_; (first | rw [← Ny473.out] at ho14 | (simp only [Int.reduceToNat] at ho14; rw [← Ny473.out] at ho14)); have HO475 := Aside0.mk (Kd.R_lower ho14 (below_size bA)); replace BK469 := bbA BK469 hb; replace HB := bsA hb; clear hb ho14; obtain ⟨Ao15,co15,eo15⟩ := Kd.R_slice HO475.out; subst eo15) | ((with_reducible refine gate_callee (f:=23) rfl ?_); refine goesL_ (some 28) rfl rfl Try.func23 (by kernel_rfl) rfl #[.slice Ao15 y473.length co15] rfl mA ?_; (with_reducible refine (impl_first.calls k _ _ y473 t476 _ ?side1 ?side2 A8.out).mono ?_); (case side1 => repeat (first | exact (Kd.R_reads' HO475.out).2.2 | (with_reducible refine Kd.C_alloc ?_ _) | (with_reducible refine Kd.C_drewN ?_ _) | (with_reducible refine Kd.C_drew ?_))); (case side2 => exact (Kd.R_reads' HO475.out).2.1); rintro e w' ⟨rfl,⟨nd,rfl⟩⟩; refine ⟨_,rfl,?_⟩))
    go_ret
    exact ⟨by first | rfl | (simp [errW_none,errW_some] <;> rfl) | (simp [*,errW_none,errW_some] <;> rfl),bA⟩
   ·rw [if_neg c7] at H
    exact absurd H (by simp)
  ·rw [if_neg c6] at H
   exact absurd H (by simp)
 ·replace c5 := Bool.eq_false_iff.mpr c5
  subst c5
  rw [if_neg (show ¬ (false = true) by decide)] at H
  obtain rfl := Option.some.inj H
  go_enter Try.func41,Try.ntmps41
  go_wp2_with (first | ((with_reducible refine gate_dst (N:=3) rfl ?_); refine bxe (N:=3) (cs := #[.slice A0_0 l0_0.length c0_0,.int .i64 a0_1]) (t:=25) ?_; intro gb469 hg w16 hbox hb; have BK469 := Aside0.mk (hbox); have GW469 := Aside0.mk ((gw hg : w.heap.size ≤ gb469)); have GE469 := GW469; replace HB := bsA hb; clear hb hbox hg; obtain ⟨hcz17_0,hcz17_1⟩ := cl2 BK469.out; obtain ⟨hfz17_0,hfz17_1⟩ := fz2 BK469.out) | ((with_reducible refine gate_callee (f:=40) rfl ?_); refine goesL_ (some 12) rfl rfl Try.func40 (by kernel_rfl) rfl #[.agg #[.slice A0_0 l0_0.length c0_0,.int .i64 a0_1],.string a1] rfl mA ?_; (with_reducible refine (impl_Store_find.calls _ _ l0_0 a0_1 a1 t470 false _ ?side1 ?side2 A4.out).mono ?_); (case side1 => exact sC HR0_0.out); (case side2 => exact HC0_0.out); rintro e w18 ⟨rfl,hb⟩; refine ⟨_,rfl,?_⟩; replace BK469 := bbA BK469 hb; replace HB := bsA hb; clear hb))
  go_ret
  exact ⟨by first | rfl | (simp [errW_none,errW_some] <;> rfl) | (simp [*,errW_none,errW_some] <;> rfl),bA⟩

/-! ### impl_Store_without: function 42 (by hand) -/
def idxQ (p : Nat → Bool) : Nat → Nat → Int
 | 0,_ => -1
 | d + 1,i => if p i = true then (i : Int) else idxQ p d (i + 1)
theorem idxQ_hit (c : Nat) (p : Nat → Bool) (hp : ∀ j,p j = decide (j = c)) : ∀ (d i : Nat),i ≤ c → c < i + d → idxQ p d i = (c : Int)
 | 0,i,h1,h2 => by omega
 | d + 1,i,h1,h2 => by
  unfold idxQ
  rw [hp i]
  by_cases h : i = c
  ·subst h; simp
  ·rw [decide_eq_false h]
   exact idxQ_hit c p hp d (i + 1) (by omega) (by omega)
def shiftL (l : List S32) (c : Nat) : Nat → List S32
 | 0 => l
 | m + 1 => (shiftL l c m).set (c + m) (l.getD (c + m + 1) z32)
theorem shiftL_len (l : List S32) (c : Nat) : ∀ m,(shiftL l c m).length = l.length
 | 0 => rfl
 | m + 1 => by unfold shiftL; rw [List.length_set,shiftL_len l c m]
theorem shiftL_at (l : List S32) (c : Nat) : ∀ (m t : Nat),c + m < l.length → (shiftL l c m)[t]? = if t < c then l[t]? else if t < c + m then l[t + 1]? else l[t]?
 | 0,t,_ => by
  unfold shiftL
  by_cases h : t < c
  ·rw [if_pos h]
  ·rw [if_neg h,if_neg (by omega)]
 | m + 1,t,hm => by
  have ih := shiftL_at l c m t (by omega)
  unfold shiftL
  rw [List.getElem?_set,ih]
  by_cases h : c + m = t
  ·subst h
   rw [if_pos rfl,shiftL_len,if_pos (show c + m < l.length by omega),if_neg (show ¬ c + m < c by omega),if_pos (show c + m < c + (m + 1) by omega),List.getD_eq_getElem?_getD,List.getElem?_eq_getElem (show c + m + 1 < l.length by omega)]
   rfl
  ·rw [if_neg h]
   by_cases h1 : t < c
   ·rw [if_pos h1,if_pos h1]
   ·rw [if_neg h1,if_neg h1]
    by_cases h2 : t < c + m
    ·rw [if_pos h2,if_pos (by omega)]
    ·rw [if_neg h2,if_neg (by omega)]
theorem shiftL_hi (l : List S32) (c m t : Nat) (hm : c + m < l.length) (h : c + m ≤ t) : (shiftL l c m).getD t z32 = l.getD t z32 := by
 rw [List.getD_eq_getElem?_getD,List.getD_eq_getElem?_getD,shiftL_at l c m t hm,if_neg (by omega),if_neg (by omega)]
theorem shiftL_end (l : List S32) (c m : Nat) (hm : c + m + 1 = l.length) : (shiftL l c m).take (l.length - 1) = l.take c ++ l.drop (c + 1) := by
 apply List.ext_getElem?
 intro t
 rw [List.getElem?_take,shiftL_at l c m t (by omega),List.getElem?_append,List.length_take]
 by_cases h0 : t < l.length - 1
 ·rw [if_pos h0]
  by_cases h1 : t < c
  ·rw [if_pos h1,if_pos (by omega),List.getElem?_take,if_pos h1]
  ·rw [if_neg h1,if_pos (by omega),if_neg (by omega),List.getElem?_drop]
   congr 1
   omega
 ·rw [if_neg h0,if_neg (by omega),List.getElem?_drop,List.getElem?_eq_none (by omega)]
set_option maxHeartbeats 2000000 in
set_option maxRecDepth 100000 in
theorem wo_one (x0 : ByteArray) (x1 : Int) (x2 : ByteArray) (key : ByteArray) (B : Nat) (W : World) (hkey : W.heap[B]? = some (.cells #[.string key] 9 (0,0))) :
  Calls Try.prog 66 (#[.agg #[.string x0,.int .i64 x1,.string x2]] ++ #[.pointer (some ⟨B,0,none⟩)]) W fun e w' => e = .returned (.bool (x0.toList == key.toList)) ∧ Below W.heap.size W w' := by
 have HB := Aside0.mk (Below.refl W.heap.size W)
 have hc : W.cell? ⟨B,0,none⟩ = some (.string key) := (blk_cell hkey 0).trans rfl
 clear hkey
 show Calls Try.prog 66 #[.agg #[.string x0,.int .i64 x1,.string x2],.pointer (some ⟨B,0,none⟩)] W _
 go_enter Try.func66,Try.ntmps66
 go_wp2_with (first
  | ((with_reducible refine gate_dst (N:=2) rfl ?_); refine bxe (N:=2) (cs := #[.string x0,.int .i64 x1,.string x2]) (t:=32) ?_; intro gb hg w7 hbox hb; have HB1 := Aside0.mk (below_step HB.out hb); replace hc := cb hb hc; have hcE : w7.cell? ⟨gb,0,none⟩ = some (.string x0) := (blk_cell hbox 0).trans rfl; clear hb hbox hg))
 go_ret
 exact ⟨by simp,by repeat (first | (with_reducible exact HB1.out) | apply below_alloc | apply pw_below_drewN | apply below_drew1)⟩
set_option maxHeartbeats 4000000 in
set_option maxRecDepth 100000 in
theorem idx_obj (B : Nat) (key : ByteArray) (A0 : Option Addr) (c0 : Nat) (l0 : List S32) (w : World) (hr0 : Kd.C k32 w A0 l0.length l0) (hsz : l0.length ≤ 140737488351232) (hkey : w.heap[B]? = some (.cells #[.string key] 9 (0,0))) :
  Calls Try.prog 75 #[.slice A0 l0.length c0,.func (.func 66) #[] #[.pointer (some ⟨B,0,none⟩)]] w fun e w' => e = .returned (.int .i64 (idxQ (fun i => (l0.getD i z32).f0.toList == key.toList) l0.length 0)) ∧ Below w.heap.size w w' := by
 have HR := Aside0.mk hr0
 have HK := Aside0.mk hkey
 have S0 := Aside0.mk (Below.refl w.heap.size w)
 have u71 := Try.underlying32
 clear hr0 hkey
 generalize hidx : idxQ (fun i => (l0.getD i z32).f0.toList == key.toList) l0.length 0 = idx
 have ID := Aside0.mk hidx
 clear hidx
 go_enter Try.func75,Try.ntmps75
 go_wp2
 go_loopg [5,8] l0.length (fun gg _ s8 wr => ∃ i : Nat,i ≤ l0.length ∧ l0.length - i ≤ gg ∧ s8 = .int .i64 i ∧ Aside0 (Below w.heap.size w wr) ∧ Aside0 (idxQ (fun i => (l0.getD i z32).f0.toList == key.toList) (l0.length - i) i = idx))
 case atStart => exact ⟨0,Nat.zero_le _,by omega,rfl,S0,ID⟩
 case round =>
  clear S0 ID
  obtain ⟨i,hi,hg,rfl,HB,I⟩ := hrel
  by_cases hlt : i < l0.length
  ·have hltz : (i : Int) < (l0.length : Int) := by omega
   have p0 : 0 ≤ (i : Int) := by omega
   obtain ⟨ad,ea,h0,h1,h2⟩ := at_T32 HR.out (i : Int) p0 hltz
   cases ea
   replace h0 := cb HB.out h0
   replace h1 := cb HB.out h1
   replace h2 := cb HB.out h2
   rw [Int.toNat_natCast] at h0 h1 h2
   have hy : rd_T32 l0 (i : Int) = l0.getD i z32 := by unfold rd_T32; rw [Int.toNat_natCast]
   rw [hy] at h0 h1 h2
   clear hy
   have hcall := wo_one (l0.getD i z32).f0 (l0.getD i z32).f1 (l0.getD i z32).f2 key B wr ((HB.out.block B (blk_lt HK.out)).trans HK.out)
   have hstep : idxQ (fun i => (l0.getD i z32).f0.toList == key.toList) (l0.length - i) i = if ((l0.getD i z32).f0.toList == key.toList) = true then (i : Int) else idxQ (fun i => (l0.getD i z32).f0.toList == key.toList) (l0.length - (i + 1)) (i + 1) := by
    rw [show l0.length - i = (l0.length - (i + 1)) + 1 by omega]
    rfl
   have I2 := Aside0.mk (hstep.symm.trans I.out)
   clear hstep I
   generalize l0.getD i z32 = y at h0 h1 h2 hcall I2
   cases hq : (y.f0.toList == key.toList) with
   | true =>
    rw [hq] at hcall I2
    go_wp2_with (go_at_call 66; refine hcall.mono ?_; rintro e w' ⟨rfl,hb'⟩; have HB2 := Aside0.mk (HB.out.trans (hb'.mono HB.out.size) : Below w.heap.size w w'); clear hb')
    go_ret
    exact ⟨by rw [← I2.out]; rfl,HB2.out⟩
   | false =>
    rw [hq] at hcall I2
    go_wp2_with (go_at_call 66; refine hcall.mono ?_; rintro e w' ⟨rfl,hb'⟩; have HB2 := Aside0.mk (HB.out.trans (hb'.mono HB.out.size) : Below w.heap.size w w'); clear hb')
    go_roundg (l0.length - (i + 1))
    case measure => omega
    case rel => exact ⟨i + 1,by omega,Nat.le_refl _,by go_num,HB2,⟨I2.out⟩⟩
  ·obtain rfl : i = l0.length := by omega
   have hltz : ¬ (l0.length : Int) < (l0.length : Int) := by omega
   have I2 : Aside0 (idx = -1) := ⟨by rw [← I.out,Nat.sub_self]; rfl⟩
   clear I
   go_wp2
   go_ret
   exact ⟨by rw [I2.out]; rfl,HB.out⟩
/-- 'clear(s)', s a slice of one element of three cells. -/
theorem run_clear3 {P : Program} (w : World) (t e ty : TypeId) (z : Value) (a1 a2 a3 : Value) (ht : P.underlying t = some (.slice e)) (hv : ∀ w,(zeroValue e).run P w = .ok z w) (hz : z.cells = #[a1,a2,a3]) (h1 : ∀ v ∈ [a1,a2,a3],v.oneCell' = true) (b o c : Nat)
  (hc : ∀ j,j < 3 → (w.cell? ⟨b,o + j,none⟩).isSome = true) (hf : ∀ j,j < 3 → w.frozen? ⟨b,o + j,none⟩ = false) :
  (Builtin.clear_ #[t] ty #[.slice (some ⟨b,o,none⟩) 1 c]).run P w = .ok (.tuple #[]) (w.setCells b o [a1,a2,a3]) := by
 have hzc : (Builtin.zeroCells z.cells 1).toList = [a1,a2,a3] := by
  rw [hz]
  simp [Builtin.zeroCells,Array.toList_range,List.range,List.range.loop]
 have hst := run_storeCells_cells (P:=P) b o [a1,a2,a3] 0 w (by simpa using hc) (by simpa using hf) h1
 simp only [Nat.add_zero] at hst
 simp [Builtin.clear_,run_underlying ht,hv,hzc,hst]
/-- Only block g of w's blocks may have turned. -/
def FarEq (w W : World) (g : Nat) : Prop := w.heap.size ≤ W.heap.size ∧ ∀ k,k < w.heap.size → k ≠ g → W.heap[k]? = w.heap[k]?
theorem far_refl (w : World) (g : Nat) : FarEq w w g := ⟨Nat.le_refl _,fun _ _ _ => rfl⟩
theorem far_below {w W W' : World} {g : Nat} (h : FarEq w W g) (hb : Below W.heap.size W W') : FarEq w W' g := ⟨Nat.le_trans h.1 hb.size,fun k hk hg => (hb.block k (Nat.lt_of_lt_of_le hk h.1)).trans (h.2 k hk hg)⟩
theorem far_set {w W : World} {g : Nat} (h : FarEq w W g) {b j : Nat} (hp : b = g ∨ w.heap.size ≤ b) (u : Value) : FarEq w (W.setCell ⟨b,j,none⟩ u) g :=
 ⟨Nat.le_trans h.1 ((Below.refl 0 W).setCell (p:=⟨b,j,none⟩) (Nat.zero_le _) u).size,fun k hk hg => (Below.heap_setCell W ⟨b,j,none⟩ u k (by show k ≠ b; rcases hp with e | e; rw [e]; exact hg; omega)).trans (h.2 k hk hg)⟩
set_option maxHeartbeats 8000000 in
set_option maxRecDepth 100000 in
theorem del_obj (key : ByteArray) (B g cap : Nat) (l : List S32) (c : Nat) (w0 w : World) (hB : Below w0.heap.size w0 w) (ho : Kd.R k32 32 w w0.heap.size (fun _ => True) (.slice (some ⟨g,0,none⟩) l.length cap) l) (hkey : w.heap[B]? = some (.cells #[.string key] 9 (0,0))) (hBg : B ≠ g)
  (hc : c < l.length) (hhit : ∀ j,j < l.length → ((l.getD j z32).f0.toList == key.toList) = decide (j = c)) (hsz : l.length ≤ 3518437208000) :
  Calls Try.prog 65 #[.slice (some ⟨g,0,none⟩) l.length cap,.func (.func 66) #[] #[.pointer (some ⟨B,0,none⟩)]] w fun e w' =>
   e = .returned (.slice (some ⟨g,0,none⟩) (l.length - 1) cap) ∧ Kd.R k32 32 w' w0.heap.size (fun _ => True) (.slice (some ⟨g,0,none⟩) (l.length - 1) cap) (l.take c ++ l.drop (c + 1)) ∧ Below w0.heap.size w0 w' ∧ FarEq w w' g := by
 have hidx := idx_obj B key (some ⟨g,0,none⟩) cap l w (Kd.R_reads' ho).2.2 (by omega) hkey
 have hcap : l.length ≤ cap := (Kd.R_reads' ho).2.1
 have hq : idxQ (fun i => (l.getD i z32).f0.toList == key.toList) l.length 0 = (c : Int) := by
  have e : ∀ (d i : Nat),i + d = l.length → idxQ (fun i => (l.getD i z32).f0.toList == key.toList) d i = idxQ (fun i => decide (i = c)) d i := by
   intro d
   induction d with
   | zero => intro i _; rfl
   | succ d ih =>
    intro i hi
    show (if ((l.getD i z32).f0.toList == key.toList) = true then (i : Int) else _) = if decide (i = c) = true then (i : Int) else _
    rw [hhit i (by omega),ih (i + 1) (by omega)]
  rw [e l.length 0 (by omega)]
  exact idxQ_hit c _ (fun _ => rfl) l.length 0 (by omega) (by omega)
 rw [hq] at hidx
 clear hq
 have hBlt : B < w.heap.size := blk_lt hkey
 have HI := Aside0.mk hidx
 have HK := Aside0.mk hkey
 have HB := Aside0.mk hB
 have HO := Aside0.mk ho
 have HH := Aside0.mk hhit
 have NG := Aside0.mk (show B ≠ g from hBg)
 have GB := Aside0.mk (Kd.R_base ho g (by simp [Value.ownBlock]))
 have hu26 := Try.underlying23
 have hu71 := Try.underlying32
 have hne1 : ((c : Int) == -1) = false := beq_eq_false_iff_ne.2 (by omega)
 have HF0 := Aside0.mk (far_refl w g)
 have BL := Aside0.mk hBlt
 clear hidx hkey hB ho hhit hBg hBlt
 go_enter Try.func65,Try.ntmps65
 go_wp2_with (go_at_call 75; refine HI.out.mono ?_; rintro e w1 ⟨rfl,hb⟩; have HF1 := Aside0.mk (far_below HF0.out hb); have HO1 := Aside0.mk (Kd.R_below HO.out hb); have HB1 := Aside0.mk (HB.out.trans (hb.mono HB.out.size) : Below w0.heap.size w0 w1); clear HF0 HI hb)
 go_loopg [5,6,7] l.length (fun gg s5 s6 _ wr => ∃ (m : Nat) (i j : Int),s5 = .int .i64 i ∧ s6 = .int .i64 j ∧ i = ((c + m : Nat) : Int) ∧ j = ((c + m + 1 : Nat) : Int) ∧ c + m + 1 ≤ l.length ∧ l.length - (c + m + 1) ≤ gg ∧ Aside0 (Kd.R k32 32 wr w0.heap.size (fun _ => True) (.slice (some ⟨g,0,none⟩) l.length cap) (shiftL l c m)) ∧ Aside0 (Below w0.heap.size w0 wr) ∧ Aside0 (FarEq w wr g))
 case atStart => exact ⟨0,_,_,rfl,rfl,by first | omega | (unfold wrap64; omega),by first | omega | (unfold wrap64; omega),by omega,by omega,HO1,HB1,HF1⟩
 case round =>
  clear HO1 HB1 HF1
  obtain ⟨m,i,j,rfl,rfl,hi,hj,hm,hgg,HO1,HB1,HF1⟩ := hrel
  have len_ := Aside0.mk (shiftL_len l c m)
  have HB0s := Aside0.mk HB1.out.size
  have HF0s := Aside0.mk HF1.out.1
  by_cases hlt : c + m + 1 < l.length
  ·have p7 : 0 ≤ j := by omega
   have q7 : j < (l.length : Int) := by omega
   obtain ⟨ce,hcl,hM,hcc,hfr⟩ := Kd.R_elem HO1.out z32 j p7 q7
   obtain rfl := k32_openM hM
   have hx0 : wr.cell? ⟨g,j.toNat * 3,none⟩ = _ := hcc 0 _ rfl
   have hx1 : wr.cell? ⟨g,j.toNat * 3 + 1,none⟩ = _ := hcc 1 _ rfl
   have hx2 : wr.cell? ⟨g,j.toNat * 3 + 2,none⟩ = _ := hcc 2 _ rfl
   have hy : (shiftL l c m).getD j.toNat z32 = l.getD (c + m + 1) z32 := by
    rw [show j.toNat = c + m + 1 by omega]
    exact shiftL_hi l c m _ (by omega) (by omega)
   rw [hy] at hx0 hx1 hx2
   rw [show j.toNat = c + m + 1 by omega] at hx0 hx1 hx2
   clear hcl hM hcc hfr hy
   have hne := HH.out (c + m + 1) hlt
   rw [decide_eq_false (show ¬ c + m + 1 = c by omega)] at hne
   generalize hyy : l.getD (c + m + 1) z32 = y at hx0 hx1 hx2 hne
   have Y := Aside0.mk hyy
   clear hyy
   have HNE := Aside0.mk hne
   clear hne
   go_upto_region 8 with (first | ((with_reducible refine gate_dst (N:=7) rfl ?_); refine bxe (N:=7) (cs := #[.string ⟨#[]⟩,.int .i64 0,.string ⟨#[]⟩]) (t:=32) ?_; intro gb hg w7 hbox hb; have hgle : wr.heap.size ≤ gb := (by rw [hg]; first | exact Nat.le_refl _ | (simp; done) | (simp; omega)); have HO7 := Aside0.mk (Kd.R_below (Kd.R_elderB HO1.out gb hgle) hb); have HB7 := Aside0.mk (below_step HB1.out hb); have HF7 := Aside0.mk (far_below HF1.out hb); have BK7 := Aside0.mk hbox; have GE7 := Aside0.mk hgle; have hcz0 : w7.cell? ⟨gb,0,none⟩ = some (.string ⟨#[]⟩) := bl BK7 0; have hcz1 : w7.cell? ⟨gb,1,none⟩ = some (.int .i64 0) := bl BK7 1; have hcz2 : w7.cell? ⟨gb,2,none⟩ = some (.string ⟨#[]⟩) := bl BK7 2; have hfz0 := blk_frozen BK7.out 0; have hfz1 := blk_frozen BK7.out 1; have hfz2 := blk_frozen BK7.out 2; clear hb hbox hg HB1 HO1))
   clear hx0 hx1 hx2
   have GW7 := Aside0.mk (show w0.heap.size ≤ gb from Nat.le_trans HB0s.out GE7.out)
   have GV7 := Aside0.mk (show w.heap.size ≤ gb from Nat.le_trans HF0s.out GE7.out)
   have n0 := Aside0.mk (blk_put (cs := #[.string y.f0,.int .i64 y.f1,.string ⟨#[]⟩]) (blk_put (cs := #[.string y.f0,.int .i64 0,.string ⟨#[]⟩]) (blk_put (cs := #[.string ⟨#[]⟩,.int .i64 0,.string ⟨#[]⟩]) BK7.out 0 (.string y.f0) rfl) 1 (.int .i64 y.f1) rfl) 2 (.string y.f2) rfl)
   have n1 := Aside0.mk (Kd.R_far (p:=⟨gb,2,none⟩) (Kd.R_far (p:=⟨gb,1,none⟩) (Kd.R_far (p:=⟨gb,0,none⟩) HO7.out (fun _ hk => hk.2) (.string y.f0)) (fun _ hk => hk.2) (.int .i64 y.f1)) (fun _ hk => hk.2) (.string y.f2))
   have n2 := Aside0.mk (below_set (j:=2) (v:=.string y.f2) (below_set (j:=1) (v:=.int .i64 y.f1) (below_set (j:=0) (v:=.string y.f0) HB7.out GW7.out) GW7.out) GW7.out)
   have n3 := Aside0.mk (far_set (b:=gb) (j:=2) (far_set (b:=gb) (j:=1) (far_set (b:=gb) (j:=0) HF7.out (.inr GV7.out) (.string y.f0)) (.inr GV7.out) (.int .i64 y.f1)) (.inr GV7.out) (.string y.f2))
   clear hcz0 hcz1 hcz2 hfz0 hfz1 hfz2 BK7 HO7 HB7 HF7
   generalize (((w7.setCell ⟨gb,0,none⟩ (.string y.f0)).setCell ⟨gb,1,none⟩ (.int .i64 y.f1)).setCell ⟨gb,2,none⟩ (.string y.f2)) = w8 at n0 n1 n2 n3 ⊢
   have hcE0 : w8.cell? ⟨gb,0,none⟩ = some (.string y.f0) := bl n0 0
   have hcE1 : w8.cell? ⟨gb,1,none⟩ = some (.int .i64 y.f1) := bl n0 1
   have hcE2 : w8.cell? ⟨gb,2,none⟩ = some (.string y.f2) := bl n0 2
   have hcall := wo_one y.f0 y.f1 y.f2 key B w8 ((n3.out.2 B BL.out NG.out).trans HK.out)
   rw [HNE.out] at hcall
   have HCALL := Aside0.mk hcall
   clear hcall
   have p9 : 0 ≤ ((c + m : Nat) : Int) := by omega
   have q9 : ((c + m : Nat) : Int) < (l.length : Int) := by omega
   have P9 := Aside0.mk p9
   have Q9 := Aside0.mk q9
   clear p9 q9
   go_wp2_with (first
    | (go_at_call 66; refine HCALL.out.mono ?_; rintro e w9 ⟨rfl,hb⟩; have BK9 := Aside0.mk ((hb.block gb (blk_lt n0.out)).trans n0.out); have HO9 := Aside0.mk (Kd.R_below n1.out hb); have HB9 := Aside0.mk (below_step n2.out hb); have HF9 := Aside0.mk (far_below n3.out hb); clear hb hcE0 hcE1 hcE2; have hcE0 : w9.cell? ⟨gb,0,none⟩ = some (.string y.f0) := bl BK9 0; have hcE1 : w9.cell? ⟨gb,1,none⟩ = some (.int .i64 y.f1) := bl BK9 1; have hcE2 : w9.cell? ⟨gb,2,none⟩ = some (.string y.f2) := bl BK9 2; obtain ⟨ce,hcl,hM,hcc,hfr⟩ := Kd.R_elem HO9.out z32 ((c + m : Nat) : Int) P9.out Q9.out; obtain rfl := k32_openM hM; have HP := Kd.R_seg HO9.out ((c + m : Nat) : Int) P9.out Q9.out (seg := [.string y.f0,.int .i64 y.f1,.string y.f2]) (j:=0) hcl hcc (show 3 ≤ 3 from by decide) (x':=y) (k32_mkM _ _ _ y) (fun _ hk => hk); have hx0 : w9.cell? ⟨g,(c + m) * 3,none⟩ = _ := hcc 0 _ rfl; have hx1 : w9.cell? ⟨g,(c + m) * 3 + 1,none⟩ = _ := hcc 1 _ rfl; have hx2 : w9.cell? ⟨g,(c + m) * 3 + 2,none⟩ = _ := hcc 2 _ rfl; have hf0 : w9.frozen? ⟨g,(c + m) * 3,none⟩ = false := hfr 0; have hf1 : w9.frozen? ⟨g,(c + m) * 3 + 1,none⟩ = false := hfr 1; have hf2 : w9.frozen? ⟨g,(c + m) * 3 + 2,none⟩ = false := hfr 2; have HPA := Aside0.mk HP; clear hcl hM hcc hfr HP)
    | ((with_reducible refine gate_store (t:=32) (p:=33) rfl ?_); refine store_event (t:=32) (p:=33) (v:=?vo) (w1 := (((w9.setCell ⟨g,(c + m) * 3,none⟩ (.string y.f0)).setCell ⟨g,(c + m) * 3 + 1,none⟩ (.int .i64 y.f1)).setCell ⟨g,(c + m) * 3 + 2,none⟩ (.string y.f2))) ?hg ?ho ?hn ?hr ?_; (case ho => rfl); (case hg => rfl); (case hn => rfl); (case hr => first | (go_simp; done) | (go_simp; rfl)); intro w13 hw; have HO13 : Aside0 (Kd.R k32 32 w13 w0.heap.size (fun k_ => True ∧ k_ ≠ gb) (.slice (some ⟨g,0,none⟩) l.length cap) (shiftL l c (m + 1))) := ⟨by rw [hw]; show Kd.R _ _ _ _ _ _ ((shiftL l c m).set (c + m) (l.getD (c + m + 1) z32)); rw [Y.out]; exact HPA.out.1⟩; have HB13 : Aside0 (Below w0.heap.size w0 w13) := ⟨by rw [hw]; exact below_set (below_set (below_set HB9.out GB.out) GB.out) GB.out⟩; have HF13 : Aside0 (FarEq w w13 g) := ⟨by rw [hw]; exact far_set (far_set (far_set HF9.out (.inl rfl) _) (.inl rfl) _) (.inl rfl) _⟩; clear hw HPA hx0 hx1 hx2 hf0 hf1 hf2 HO9 HB9 HF9))
   go_roundg (l.length - (c + m + 2))
   case measure => omega
   case rel => exact ⟨m + 1,_,_,rfl,rfl,by first | omega | (unfold wrap64; omega),by first | omega | (unfold wrap64; omega),by omega,Nat.le_refl _,⟨Kd.R_mono HO13.out (fun _ _ => trivial)⟩,HB13,HF13⟩
  ·have hend : c + m + 1 = l.length := by omega
   have p9 : 0 ≤ ((c + m : Nat) : Int) := by omega
   have q9 : ((c + m : Nat) : Int) < (l.length : Int) := by omega
   obtain ⟨ce,hcl,hM,hcc,hfr⟩ := Kd.R_elem HO1.out z32 ((c + m : Nat) : Int) p9 q9
   obtain rfl := k32_openM hM
   have HP := Aside0.mk (Kd.R_seg HO1.out ((c + m : Nat) : Int) p9 q9 (seg := [.string ⟨#[]⟩,.int .i64 0,.string ⟨#[]⟩]) (j:=0) hcl hcc (show 3 ≤ 3 from by decide) (x':=z32) (k32_mkM _ _ _ z32) (fun _ hk => hk))
   have hclr : ∀ ty,(Builtin.clear_ #[23] ty #[.slice (some ⟨g,(c + m) * 3,none⟩) (l.length - (c + m)) (cap - (c + m))]).run Try.prog wr = .ok (.tuple #[]) (wr.setCells g ((c + m) * 3) [.string ⟨#[]⟩,.int .i64 0,.string ⟨#[]⟩]) := fun ty => by
    rw [show l.length - (c + m) = 1 by omega]
    exact run_clear3 wr _ 32 ty (.agg #[.string ⟨#[]⟩,.int .i64 0,.string ⟨#[]⟩]) _ _ _ hu26 (fun W => by kernel_rfl) rfl (by intro v hv; simp at hv; rcases hv with rfl | rfl | rfl <;> rfl) g ((c + m) * 3) _ (fun q hq => by
     rcases q with _ | _ | _ | q
     ·exact Option.isSome_iff_exists.2 ⟨_,hcc 0 _ rfl⟩
     ·exact Option.isSome_iff_exists.2 ⟨_,hcc 1 _ rfl⟩
     ·exact Option.isSome_iff_exists.2 ⟨_,hcc 2 _ rfl⟩
     ·omega) (fun q hq => hfr q)
   have hltz : ¬ ((c : Int) + (m : Int) + 1 < (l.length : Int)) := by omega
   clear hcl hM hcc hfr p9 q9
   have HB2 := Aside0.mk (show Below w0.heap.size w0 (wr.setCells g ((c + m) * 3) [.string ⟨#[]⟩,.int .i64 0,.string ⟨#[]⟩]) from below_set (below_set (below_set HB1.out GB.out) GB.out) GB.out)
   have HF2 := Aside0.mk (show FarEq w (wr.setCells g ((c + m) * 3) [.string ⟨#[]⟩,.int .i64 0,.string ⟨#[]⟩]) g from far_set (far_set (far_set HF1.out (.inl rfl) _) (.inl rfl) _) (.inl rfl) _)
   go_wp2
   go_ret
   have e1 : l.length - 1 = c + m := by omega
   have h1 := Kd.R_take (m:=c + m) HP.out.1 (by rw [List.length_set,len_.out]; omega)
   have e2 : ((shiftL l c m).set ((c + m : Nat) : Int).toNat z32).take (c + m) = l.take c ++ l.drop (c + 1) := by
    have h2 := shiftL_end l c m hend
    rw [e1] at h2
    rw [← h2,Int.toNat_natCast]
    apply List.ext_getElem?
    intro t
    rw [List.getElem?_take,List.getElem?_take,List.getElem?_set]
    by_cases ht : t < c + m
    ·rw [if_pos ht,if_pos ht,if_neg (by omega)]
    ·rw [if_neg ht,if_neg ht]
   rw [e2] at h1
   rw [e1]
   exact ⟨rfl,h1,HB2.out,HF2.out⟩
-- DEL
def oneK (l : List S32) (key : ByteArray) (c : Nat) : Bool := decide (c < l.length) && (List.range l.length).all fun j => ((l.getD j z32).f0.toList == key.toList) == decide (j = c)
def impl_Store_without.f (l0 : List S32) (a1 : Int) (a2 : ByteArray) : Option (List S32 × Int) := if l0.length ≤ 3518437208000 ∧ oneK l0 a2 (cntK l0 a2) = true then some (l0.take (cntK l0 a2) ++ l0.drop (cntK l0 a2 + 1),a1) else none
set_option maxHeartbeats 4000000 in
set_option maxRecDepth 100000 in
theorem impl_Store_without.calls (A0 : Option Addr) (c0 : Nat) (l0 : List S32) (a1 : Int) (a2 : ByteArray) (r1 : List S32) (r2 : Int) (w : World) (hr0 : Kd.C k32 w A0 l0.length l0) (hc0 : l0.length ≤ c0) (h : impl_Store_without.f l0 a1 a2 = some (r1,r2)) :
  Calls Try.prog 42 #[.agg #[.slice A0 l0.length c0,.int .i64 a1],.string a2] w fun e w' => ∃ v0_ : Value,e = .returned (.agg #[v0_,.int .i64 r2]) ∧ Kd.R k32 32 w' w.heap.size (fun _ => True) v0_ r1 ∧ Below w.heap.size w w' := by
 -- behind impl_Store_find
 unfold impl_Store_without.f at h
 split at h
 ·rename_i hb_
  obtain ⟨hlen,hone⟩ := hb_
  obtain ⟨rfl,rfl⟩ := Prod.mk.inj (Option.some.inj h)
  clear h
  generalize cntK l0 a2 = c at hone ⊢
  unfold oneK at hone
  rw [Bool.and_eq_true,decide_eq_true_eq,List.all_eq_true] at hone
  obtain ⟨hc,hall⟩ := hone
  have hhit : ∀ j,j < l0.length → ((l0.getD j z32).f0.toList == a2.toList) = decide (j = c) := fun j hj => by simpa using hall j (List.mem_range.2 hj)
  clear hall
  have HH := Aside0.mk hhit
  have HC := Aside0.mk hc
  have HL := Aside0.mk hlen
  have hcop := fun W (hW : Below w.heap.size w W) => impl_Store_copied.calls A0 c0 l0 a1 l0 a1 W (Kd.C_below hr0 hW) hc0 (by
   have : ([] : List S32).length + l0.length < 3518437208883 := by simp; omega
   unfold impl_Store_copied.f impl_Object_58.f
   simp only [Option.bind_some,if_pos this]
   rfl)
  have HCOP := Aside0.mk hcop
  have HB := Aside0.mk (Below.refl w.heap.size w)
  have hu28 := Try.underlying25
  clear hhit hc hlen hcop hr0 hc0
  go_enter Try.func42,Try.ntmps42
  go_upto_region 2 with (first
   | ((with_reducible refine gate_dst (N:=2) rfl ?_); refine bxe (N:=2) (cs := #[.slice A0 l0.length c0,.int .i64 a1]) (t:=25) ?_; intro gs hgs w2 hbox hb; have HB2 := Aside0.mk (below_step HB.out hb); have hcs0 : w2.cell? ⟨gs,0,none⟩ = some (.slice A0 l0.length c0) := (blk_cell hbox 0).trans rfl; have hcs1 : w2.cell? ⟨gs,1,none⟩ = some (.int .i64 a1) := (blk_cell hbox 1).trans rfl; clear hb hbox hgs)
   | ((with_reducible refine gate_dst (N:=3) rfl ?_); refine bxe (N:=3) (cs := #[.string a2]) (t:=9) ?_; intro gk hgk w3 hbox hb; have HB3 := Aside0.mk (below_step HB2.out hb); have BKk3 := Aside0.mk hbox; replace hcs0 := cb hb hcs0; replace hcs1 := cb hb hcs1; clear hb hbox hgk)
   | ((with_reducible refine gate_dst (N:=4) rfl ?_); refine bxe (N:=4) (cs := #[.slice none 0 0,.int .i64 0]) (t:=25) ?_; intro g4 hg4 w4 hbox hb; have HB4 := Aside0.mk (below_step HB3.out hb); have BKk4 := Aside0.mk ((hb.block gk (blk_lt BKk3.out)).trans BKk3.out); have BK44 := Aside0.mk hbox; have hgw4 := Aside0.mk (show w.heap.size ≤ g4 from by rw [hg4]; exact HB3.out.size); replace hcs0 := cb hb hcs0; replace hcs1 := cb hb hcs1; clear hb hbox hg4 BKk3)
   | (go_at_call 36; refine (HCOP.out _ (by repeat (first | (with_reducible exact HB4.out) | apply below_alloc | apply pw_below_drewN | apply below_drew1))).mono ?_; rintro e w5 ⟨v0,rfl,hR,hb⟩; have HB5 := Aside0.mk (below_step HB4.out hb); have BKk5 := Aside0.mk ((hb.block gk (blk_lt BKk4.out)).trans BKk4.out); have BK45 := Aside0.mk ((hb.block g4 (blk_lt BK44.out)).trans BK44.out); obtain ⟨g,cap,rfl,hgb,hgl,cls,hcls⟩ := Kd.R_form hR (by have := HC.out; omega); have NKg := Aside0.mk (show gk ≠ g from by have := blk_lt BKk4.out; omega); have N4g := Aside0.mk (show g4 ≠ g from by have := blk_lt BK44.out; omega); have HO5 := Aside0.mk (Kd.R_lower hR HB4.out.size); have hgl5 := Aside0.mk hgl; clear hb hR hgb hgl hcls)
   | ((with_reducible refine gate_dst (N:=5) rfl ?_); refine bxe (N:=5) (cs := #[.slice none 0 0,.int .i64 0]) (t:=25) ?_; intro g5 hg5 w6 hbox hb; have HB6 := Aside0.mk (below_step HB5.out hb); have BKk6 := Aside0.mk ((hb.block gk (blk_lt BKk5.out)).trans BKk5.out); have BK46 := Aside0.mk ((hb.block g4 (blk_lt BK45.out)).trans BK45.out); have BK56 := Aside0.mk hbox; have HO6 := Aside0.mk (Kd.R_below HO5.out hb); have hgw5 := Aside0.mk (show w.heap.size ≤ g5 from by rw [hg5]; exact HB5.out.size); have NK5 := Aside0.mk (show gk ≠ g5 from by have := blk_lt BKk5.out; rw [hg5]; first | exact Nat.ne_of_lt this | (simp; omega)); have N45 := Aside0.mk (show g4 ≠ g5 from by have := blk_lt BK45.out; rw [hg5]; first | exact Nat.ne_of_lt this | (simp; omega)); have Ng5 := Aside0.mk (show g5 ≠ g from by have := hgl5.out; rw [hg5]; first | exact (Nat.ne_of_lt this).symm | (simp; omega)); have hcz0 : w6.cell? ⟨g5,0,none⟩ = some (.slice none 0 0) := bl BK56 0; have hcz1 : w6.cell? ⟨g5,1,none⟩ = some (.int .i64 0) := bl BK56 1; have hfz0 := blk_frozen BK56.out 0; have hfz1 := blk_frozen BK56.out 1; clear hb hbox hg5))
  have n0 := Aside0.mk (blk_put (cs := #[.slice (some ⟨g,0,none⟩) l0.length cap,.int .i64 0]) (blk_put (cs := #[.slice none 0 0,.int .i64 0]) BK56.out 0 (.slice (some ⟨g,0,none⟩) l0.length cap) rfl) 1 (.int .i64 a1) rfl)
  have n1 := Aside0.mk (Kd.R_far (p:=⟨g5,1,none⟩) (Kd.R_far (p:=⟨g5,0,none⟩) (Kd.R_types HO6.out BK56.out (by decide)) (fun _ hk => hk.2) (.slice (some ⟨g,0,none⟩) l0.length cap)) (fun _ hk => hk.2) (.int .i64 a1))
  have n2 := Aside0.mk (below_set (j:=1) (v:=.int .i64 a1) (below_set (j:=0) (v:=.slice (some ⟨g,0,none⟩) l0.length cap) HB6.out hgw5.out) hgw5.out)
  have n3 := Aside0.mk (blk_far (p:=⟨g5,1,none⟩) (blk_far (p:=⟨g5,0,none⟩) BKk6.out NK5.out (.slice (some ⟨g,0,none⟩) l0.length cap)) NK5.out (.int .i64 a1))
  have n4 := Aside0.mk (blk_far (p:=⟨g5,1,none⟩) (blk_far (p:=⟨g5,0,none⟩) BK46.out N45.out (.slice (some ⟨g,0,none⟩) l0.length cap)) N45.out (.int .i64 a1))
  clear hcz0 hcz1 hfz0 hfz1 BK56 HO6 HB6 BKk6 BK46
  generalize ((w6.setCell ⟨g5,0,none⟩ (.slice (some ⟨g,0,none⟩) l0.length cap)).setCell ⟨g5,1,none⟩ (.int .i64 a1)) = w7 at n0 n1 n2 n3 n4 ⊢
  have hcz0 : w7.cell? ⟨g5,0,none⟩ = some (.slice (some ⟨g,0,none⟩) l0.length cap) := bl n0 0
  go_wp2_with (go_at_call 65; refine (del_obj a2 gk g cap l0 c w _ (by repeat (first | (with_reducible exact n2.out) | apply pw_below_drewN | apply below_drew1)) (by (with_reducible repeat (first | apply Kd.R_drewN | apply Kd.R_drew)); exact Kd.R_mono n1.out (fun _ _ => trivial)) (by (with_reducible repeat (first | refine blk_drewN ?_ _ | refine blk_drew ?_)); exact n3.out) NKg.out HC.out HH.out HL.out).mono ?_; rintro e w8 ⟨rfl,hO,hB,hF⟩; have BK58 := Aside0.mk ((hF.2 g5 (blk_lt n0.out) Ng5.out).trans n0.out); have BK48 := Aside0.mk ((hF.2 g4 (blk_lt n4.out) N4g.out).trans n4.out); have HO8 := Aside0.mk hO; have HB8 := Aside0.mk hB; clear hO hB hF hcz0; have hcz0 : w8.cell? ⟨g5,0,none⟩ = some (.slice (some ⟨g,0,none⟩) l0.length cap) := bl BK58 0; have hcz1 : w8.cell? ⟨g5,1,none⟩ = some (.int .i64 a1) := bl BK58 1; have hfz0 := blk_frozen BK58.out 0; have hfz1 := blk_frozen BK58.out 1; have hcy0 : w8.cell? ⟨g4,0,none⟩ = some (.slice none 0 0) := bl BK48 0; have hcy1 : w8.cell? ⟨g4,1,none⟩ = some (.int .i64 0) := bl BK48 1; have hfy0 := blk_frozen BK48.out 0; have hfy1 := blk_frozen BK48.out 1; have hn1 := N45.out; have hn2 := N45.out.symm)
  have m4 := blk_put (cs := #[.slice (some ⟨g,0,none⟩) (l0.length - 1) cap,.int .i64 0]) (blk_put (cs := #[.slice none 0 0,.int .i64 0]) (blk_far (p:=⟨g5,0,none⟩) BK48.out N45.out (.slice (some ⟨g,0,none⟩) (l0.length - 1) cap)) 0 (.slice (some ⟨g,0,none⟩) (l0.length - 1) cap) rfl) 1 (.int .i64 a1) rfl
  have m1 := Kd.R_far (p:=⟨g4,1,none⟩) (Kd.R_far (p:=⟨g4,0,none⟩) (Kd.R_far (p:=⟨g5,0,none⟩) (Kd.R_types (Kd.R_types HO8.out BK48.out (by decide)) BK58.out (by decide)) (fun _ hk => hk.2) (.slice (some ⟨g,0,none⟩) (l0.length - 1) cap)) (fun _ hk => hk.1.2) (.slice (some ⟨g,0,none⟩) (l0.length - 1) cap)) (fun _ hk => hk.1.2) (.int .i64 a1)
  have m2 := below_set (j:=1) (v:=.int .i64 a1) (below_set (j:=0) (v:=.slice (some ⟨g,0,none⟩) (l0.length - 1) cap) (below_set (j:=0) (v:=.slice (some ⟨g,0,none⟩) (l0.length - 1) cap) HB8.out hgw5.out) hgw4.out) hgw4.out
  refine bodyPost_ret (results_cell_row rfl _ _ g4 25 #[.slice (some ⟨g,0,none⟩) (l0.length - 1) cap,.int .i64 a1] (0,0) _ rfl m4 hu28 rfl (by kernel_rfl)) rfl ?_
  exact ⟨_,rfl,Kd.R_mono m1 (fun _ _ => trivial),m2⟩
 ·cases h

end Go.Proofs.Ytgkfemnfbkgeiaa.XFnStore
