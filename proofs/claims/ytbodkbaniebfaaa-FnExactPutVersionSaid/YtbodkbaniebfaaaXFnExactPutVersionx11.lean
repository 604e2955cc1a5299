-- Printed by this session's own program wip/tools/xprint.py, which widens the kit's print. Not trusted: Lean checks it.
import Derived.Test.YtbodkbaniebfaaaXFnExactPutVersionx0
import Derived.Test.YtbodkbaniebfaaaXFnExactPutVersionx8
import Derived.Test.YtbodkbaniebfaaaXFnExactPutVersionx9
import Derived.Test.YtbodkbaniebfaaaXFnExactPutVersionx10
namespace Go.Proofs.Ytbodkbaniebfaaa.XFnExactPutVersion
open List (setIfInBounds_toArray set_cons_zero set_cons_succ)
open Go.RowKit Go.Proofs.YtbodkbaniebfaaaW.PrintWords Go.Proofs.YtbodkbaniebfaaaW.PrintLast Go.Proofs.YtbodkbaniebfaaaW.PrintMore
attribute [local go_sem] max2_int min2_int max_two min_two max_three min_three max_four min_four   -- for this text's walks alone
set_option linter.unusedVariables false
set_option linter.unusedSimpArgs false

/-! ### impl_storeCode: function 30 -/
def impl_storeCode.f (k : Nat) (l0_0 : List (S71)) (a0_1 : Int) (a1 : ByteArray) : Option (Int) := (impl_StoreOK.f k l0_0 a0_1).bind fun t289 => ((impl_KeyOK.f k a1).bind fun t290 => ((impl_first.f k (([anyB (!t289),anyI 1,anyB (!t290),anyI 19] : List AnyV))).bind fun t294 => (some t294)))
theorem impl_storeCode.mono : ∀ a0 a1 a2 k,LeO (impl_storeCode.f k a0 a1 a2) (impl_storeCode.f (k + 1) a0 a1 a2) := by
 intro a0 a1 a2 k
 unfold impl_storeCode.f
 repeat' first
   | (with_reducible exact impl_KeyOK.mono _ _)
   | (with_reducible exact impl_StoreOK.mono _ _ _)
   | (with_reducible exact impl_first.mono _ _)
   | (with_reducible exact LeO.refl _)
   | (with_reducible exact LeO.none _)
   | (with_reducible refine LeO.ite ?_ ?_)
   | (with_reducible refine LeO.bind ?_ (fun _ => ?_))
   | exact impl_KeyOK.mono _ _
   | exact impl_StoreOK.mono _ _ _
   | exact impl_first.mono _ _
   | exact LeO.none _
   | refine LeO.ite ?_ ?_
   | refine LeO.bind ?_ (fun _ => ?_)
set_option maxHeartbeats 8000000 in
set_option maxRecDepth 100000 in
theorem impl_storeCode.calls (k : Nat) (A0_0 : Option Addr) (c0_0 : Nat) (l0_0 : List (S71)) (a0_1 : Int) (a1 : ByteArray) (r : Int) (w : World) (hr0_0 : Kd.C k71 w A0_0 l0_0.length l0_0) (hc0_0 : l0_0.length ≤ c0_0) (h : impl_storeCode.f k l0_0 a0_1 a1 = some r) :
  Calls Try.prog 30 #[.agg #[.slice A0_0 l0_0.length c0_0,.int .i64 a0_1],.string a1] w fun e w' => e = .returned (.int .i64 r) ∧ Below w.heap.size w w' := by
 have hu28 := Try.underlying28
 have hua20 := Try.underlying20
 have HR0_0 := Aside0.mk hr0_0
 have HC0_0 := Aside0.mk hc0_0
 clear hr0_0 hc0_0
 have HB := Aside0.mk (Below.refl w.heap.size w)
 have H : ((impl_StoreOK.f k l0_0 a0_1).bind fun t289 => ((impl_KeyOK.f k a1).bind fun t290 => ((impl_first.f k (([anyB (!t289),anyI 1,anyB (!t290),anyI 19] : List AnyV))).bind fun t294 => (some t294)))) = some r := h
 clear h
 replace H := Option.bind_eq_some_iff.mp H
 obtain ⟨t289,A30,H⟩ := H
 try dsimp only at H
 have A3 := Aside0.mk A30
 clear A30
 replace H := Option.bind_eq_some_iff.mp H
 obtain ⟨t290,A40,H⟩ := H
 try dsimp only at H
 have A4 := Aside0.mk A40
 clear A40
 obtain ⟨y291,hy291⟩ : ∃ y_ : List AnyV,y_ = (([anyB (!t289),anyI 1,anyB (!t290),anyI 19] : List AnyV)) := ⟨_,rfl⟩
 replace H : ((impl_first.f k y291).bind fun t294 => (some t294)) = some r := by first | (rw [hy291]; with_reducible exact H) | (have H2_ := (Option.bind_some _ _).symm.trans H; rw [hy291]; with_reducible exact H2_) | (have H2_ := (Option.bind_some _ _).symm.trans H; with_reducible exact H2_) | with_reducible exact H | (rw [hy291]; exact H) | exact H
 have Ny291 := Aside0.mk hy291
 clear hy291
 replace H := Option.bind_eq_some_iff.mp H
 obtain ⟨t294,A50,H⟩ := H
 try dsimp only at H
 have A5 := Aside0.mk A50
 clear A50
 obtain rfl := Option.some.inj H
 go_enter Try.func30,Try.ntmps30
 go_wp2_with (first | ((with_reducible refine gate_dst (N:=2) rfl ?_); refine box_event ?hg (N:=2) ?hd (cs := #[.slice A0_0 l0_0.length c0_0,.int .i64 a0_1]) (t:=28) ?hr ?_; (case hd => rfl); (case hg => rfl); (case hr => first | (go_simp; done) | (go_simp; rfl)); intro gb288 hg w6 hbox hb; have n0_ := Aside0.mk (below_step bA hb); have n1_ := Aside0.mk (hbox); have n2_ := Aside0.mk ((by rw [hg]; exact (below_size bA) : w.heap.size ≤ gb288)); have n3_ := Aside0.mk ((by rw [hg]; exact (below_size bA) : w.heap.size ≤ gb288)); clear HB; have HB := n0_; have BK288 := n1_; have GW288 := n2_; have GE288 := n3_; clear n0_ n1_ n2_ n3_; clear hb hbox hg; have hcz7_0 : w6.cell? ⟨gb288,0,none⟩ = some (.slice A0_0 l0_0.length c0_0) := (blk_cell BK288.out 0).trans rfl; have hcz7_1 : w6.cell? ⟨gb288,1,none⟩ = some (.int .i64 a0_1) := (blk_cell BK288.out 1).trans rfl; have hfz7_0 := blk_frozen BK288.out 0; have hfz7_1 := blk_frozen BK288.out 1) | ((with_reducible refine gate_callee (f:=40) rfl ?_); refine goesL_ (some 6) rfl rfl Try.func40 (by kernel_rfl) rfl #[.agg #[.slice A0_0 l0_0.length c0_0,.int .i64 a0_1]] rfl mA ?_; (with_reducible refine (impl_StoreOK.calls k _ _ l0_0 a0_1 t289 _ ?side1 ?side2 A3.out).mono ?_); (case side1 => repeat (first | exact (Kd.C_below HR0_0.out HB.out) | (with_reducible refine Kd.C_alloc ?_ _) | (with_reducible refine Kd.C_drewN ?_ _) | (with_reducible refine Kd.C_drew ?_))); (case side2 => exact HC0_0.out); rintro e w8 ⟨rfl,hb⟩; refine ⟨_,rfl,?_⟩; have n0_ := Aside0.mk (blk_below (g:=gb288) (o:=.cells #[.slice A0_0 l0_0.length c0_0,.int .i64 a0_1] 28 (0,0)) (kA BK288.out) hb); have n1_ := Aside0.mk (below_step bA hb); clear BK288; clear HB; have BK288 := n0_; have HB := n1_; clear n0_ n1_; (try clear hb); (try clear hb2); (try clear hk); (try clear hi)) | ((with_reducible refine gate_callee (f:=57) rfl ?_); refine goesL_ (some 11) rfl rfl Try.func57 (by kernel_rfl) rfl #[.string a1] rfl mA ?_; (with_reducible refine (impl_KeyOK.calls k a1 t290 _ A4.out).mono ?_); rintro e w' ⟨rfl,⟨nd,rfl⟩⟩; refine ⟨_,rfl,?_⟩) | ((with_reducible refine gate_dst (N:=15) rfl ?_); refine Kd.R_lit kAny _ 20 ?hg (N:=15) ?hd (xs := ([anyB (!t289),anyI 1,anyB (!t290),anyI 19] : List AnyV)) (inner := [.iface 4 (.bool (!t289)),.iface 3 (.int .i64 1),.iface 4 (.bool (!t290)),.iface 3 (.int .i64 19)]) (ok := fun _ => True) (okp := fun _ => True) ?hr ?hp (fun _ hk => hk) trivial (Below.refl _ _) (Nat.le_refl _) (by simp) ?_; (case hd => rfl); (case hg => rfl); (case hr => first | (go_simp; done) | (go_simp; rfl)); (case hp => exact (Reps.one (show Kd.M kAny _ _ _ (anyB (!t289)) [.iface 4 (.bool (!t289))] from rfl) (Reps.one (show Kd.M kAny _ _ _ (anyI 1) [.iface 3 (.int .i64 1)] from rfl) (Reps.one (show Kd.M kAny _ _ _ (anyB (!t290)) [.iface 4 (.bool (!t290))] from rfl) (Reps.one (show Kd.M kAny _ _ _ (anyI 19) [.iface 3 (.int .i64 19)] from rfl) (Reps.none _ _)))))); intro v292 w9 ho10 hb hg_ hnew_; clear hg_ hnew_; (first | rw [← Ny291.out] at ho10 | (simp only [Int.reduceToNat] at ho10; rw [← Ny291.out] at ho10)); have n0_ := Aside0.mk (Kd.R_lower ho10 (below_size bA)); have n1_ := Aside0.mk (blk_below (g:=gb288) (o:=.cells #[.slice A0_0 l0_0.length c0_0,.int .i64 a0_1] 28 (0,0)) (kA BK288.out) hb); have n2_ := Aside0.mk (below_step bA hb); clear BK288; clear HB; have HO293 := n0_; have BK288 := n1_; have HB := n2_; clear n0_ n1_ n2_; clear hb ho10; obtain ⟨Ao11,co11,eo11⟩ := Kd.R_slice HO293.out; subst eo11) | ((with_reducible refine gate_callee (f:=28) rfl ?_); refine goesL_ (some 16) rfl rfl Try.func28 (by kernel_rfl) rfl #[.slice Ao11 y291.length co11] rfl mA ?_; (with_reducible refine (impl_first.calls k _ _ y291 t294 _ ?side1 ?side2 A5.out).mono ?_); (case side1 => repeat (first | exact (Kd.R_reads' HO293.out).2.2 | (with_reducible refine Kd.C_alloc ?_ _) | (with_reducible refine Kd.C_drewN ?_ _) | (with_reducible refine Kd.C_drew ?_))); (case side2 => exact (Kd.R_reads' HO293.out).2.1); rintro e w' ⟨rfl,⟨nd,rfl⟩⟩; refine ⟨_,rfl,?_⟩))
 go_ret
 exact ⟨by first | rfl | (simp [errW_none,errW_some] <;> rfl) | (simp [*,errW_none,errW_some] <;> rfl),bA⟩

/-! ### impl_Store_find: function 58 (by hand) -/
def cmpK (key : ByteArray) (x : S71) : Int := Lib.compareBytes x.f0.data.toList key.data.toList
def lowK (l : List S71) (key : ByteArray) (i : Nat) : Bool := decide (cmpK key (l.getD i z71) < 0)
def cntK (l : List S71) (key : ByteArray) : Nat := l.countP (fun x => decide (cmpK key x < 0))
def hasK (l : List S71) (key : ByteArray) : Bool := decide (cntK l key < l.length) && decide (cmpK key (l.getD (cntK l key) z71) = 0)
def monoK (l : List S71) (key : ByteArray) : Bool := (List.range l.length).all fun b => !(lowK l key b) || (List.range b).all fun a => lowK l key a
theorem monoK_at {l : List S71} {key : ByteArray} (h : monoK l key = true) {a b : Nat} (hab : a ≤ b) (hb : b < l.length) (hl : lowK l key b = true) : lowK l key a = true := by
 unfold monoK at h
 rw [List.all_eq_true] at h
 have := h b (List.mem_range.2 hb)
 rw [hl] at this
 rw [Bool.not_true,Bool.false_or,List.all_eq_true] at this
 rcases Nat.eq_or_lt_of_le hab with rfl | hlt
 ·exact hl
 ·exact this a (List.mem_range.2 hlt)
theorem countP_cut {α : Type} (p : α → Bool) (d : α) : ∀ (l : List α) (i : Nat),i ≤ l.length → (∀ t,t < i → p (l.getD t d) = true) → (∀ t,i ≤ t → t < l.length → p (l.getD t d) = false) → l.countP p = i
 | [],i,hi,_,_ => by simp at hi; simp [hi]
 | a :: r,0,_,_,h2 => by
  rw [List.countP_eq_zero]
  intro x hx
  obtain ⟨t,ht,rfl⟩ := List.getElem_of_mem hx
  have := h2 t (Nat.zero_le _) ht
  rw [List.getD_eq_getElem?_getD,List.getElem?_eq_getElem ht] at this
  simpa using this
 | a :: r,i + 1,hi,h1,h2 => by
  have ha : p a = true := by simpa using h1 0 (Nat.succ_pos _)
  rw [List.countP_cons_of_pos ha,countP_cut p d r i (by simpa using hi) (fun t ht => by simpa using h1 (t + 1) (by omega)) (fun t h3 h4 => by simpa using h2 (t + 1) (by omega) (by simpa using h4))]
theorem find_cmp (x0 : ByteArray) (x1 : Int) (x2 : ByteArray) (key : ByteArray) (W : World) : Calls Try.prog 74 #[.agg #[.string x0,.int .i64 x1,.string x2],.string key] W fun e w' => e = .returned (.int .i64 (cmpK key ⟨x0,x1,x2⟩)) ∧ Below W.heap.size W w' := by
 unfold cmpK
 have HB := Aside0.mk (Below.refl W.heap.size W)
 go_enter Try.func74,Try.ntmps74
 go_wp2_with (go_at_call 75; refine (Try.strings_Compare _ _ _).mono ?_; rintro e w' ⟨rfl,rfl⟩)
 go_ret
 exact ⟨rfl,by repeat (first | (with_reducible exact HB.out) | apply below_alloc | apply pw_below_drewN | apply below_drew1)⟩
set_option maxHeartbeats 4000000 in
set_option maxRecDepth 100000 in
theorem find_bs (A0 : Option Addr) (c0 : Nat) (l0 : List S71) (key : ByteArray) (w : World) (hr0 : Kd.C k71 w A0 l0.length l0) (hsz : l0.length ≤ 140737488351232) (hm : monoK l0 key = true) :
  Calls Try.prog 73 #[.slice A0 l0.length c0,.string key,.func (.func 74) #[] #[]] w fun e w' =>
   e = .returned (.tuple #[.int .i64 (cntK l0 key : Nat),.bool (hasK l0 key)]) ∧ Below w.heap.size w w' := by
 have HR := Aside0.mk hr0
 have M := Aside0.mk hm
 have S0 := Aside0.mk (Below.refl w.heap.size w)
 have u44 := Try.underlying71
 clear hr0 hm
 generalize hcnt : cntK l0 key = cnt
 have CN := Aside0.mk hcnt
 clear hcnt
 generalize hfin : hasK l0 key = fin
 have FIN := Aside0.mk hfin
 clear hfin
 go_enter Try.func73,Try.ntmps73
 go_wp2
 go_loopg [9,10] l0.length (fun kx s9 s10 wr => ∃ lo hi : Nat,s9 = .int .i64 lo ∧ s10 = .int .i64 hi ∧ lo ≤ hi ∧ hi ≤ l0.length ∧ hi - lo ≤ kx ∧ Aside0 (Below w.heap.size w wr) ∧ Aside0 ((∀ t,t < lo → lowK l0 key t = true) ∧ (∀ t,hi ≤ t → t < l0.length → lowK l0 key t = false)))
 case atStart => exact ⟨0,l0.length,rfl,rfl,Nat.zero_le _,Nat.le_refl _,by omega,S0,⟨fun t ht => absurd ht (Nat.not_lt_zero _),fun t h1 h2 => by omega⟩⟩
 case round =>
  clear S0
  obtain ⟨lo,hi,rfl,rfl,hlh,hin,hg,HB,I⟩ := hrel
  by_cases hlt : lo < hi
  ·have p0 : 0 ≤ ((lo : Int) + (hi : Int)) / 2 := by omega
   have q0 : ((lo : Int) + (hi : Int)) / 2 < (l0.length : Int) := by omega
   obtain ⟨ad,ea,h0,h1,h2⟩ := at_T71 HR.out (((lo : Int) + (hi : Int)) / 2) p0 q0
   cases ea
   replace h0 := (HB.out.cell (World.block_lt_of_cell? w _ h0)).trans h0
   replace h1 := (HB.out.cell (World.block_lt_of_cell? w _ h1)).trans h1
   replace h2 := (HB.out.cell (World.block_lt_of_cell? w _ h2)).trans h2
   have eN : (((lo : Int) + (hi : Int)) / 2).toNat = (lo + hi) / 2 := by omega
   rw [eN] at h0 h1 h2
   generalize hy : rd_T71 l0 (((lo : Int) + (hi : Int)) / 2) = y at h0 h1 h2
   have Y : Aside0 (l0.getD ((lo + hi) / 2) z71 = y) := ⟨by rw [← hy]; unfold rd_T71; rw [eN]⟩
   clear hy eN
   have hc := fun W => find_cmp y.f0 y.f1 y.f2 key W
   have hyd : (⟨y.f0,y.f1,y.f2⟩ : S71) = y := rfl
   rw [hyd] at hc
   clear hyd
   have HC := Aside0.mk hc
   clear hc
   by_cases hyx : cmpK key y < 0
   ·go_wp2_with (go_at_call 74; refine (HC.out _).mono ?_; rintro e w' ⟨rfl,hb⟩; have HB2 := Aside0.mk (HB.out.trans (hb.mono HB.out.size) : Below w.heap.size w w'); clear hb)
    go_roundg (hi - ((lo + hi) / 2 + 1))
    case measure => omega
    case rel =>
     have I2 : Aside0 ((∀ t,t < (lo + hi) / 2 + 1 → lowK l0 key t = true) ∧ (∀ t,hi ≤ t → t < l0.length → lowK l0 key t = false)) := ⟨fun t ht => monoK_at M.out (show t ≤ (lo + hi) / 2 by omega) (by omega) (by unfold lowK; rw [Y.out]; exact decide_eq_true hyx),I.out.2⟩
     exact ⟨(lo + hi) / 2 + 1,hi,by rw [show ((lo : Int) + (hi : Int)) / 2 + 1 = (((lo + hi) / 2 + 1 : Nat) : Int) by omega],rfl,by omega,hin,Nat.le_refl _,HB2,I2⟩
   ·go_wp2_with (go_at_call 74; refine (HC.out _).mono ?_; rintro e w' ⟨rfl,hb⟩; have HB2 := Aside0.mk (HB.out.trans (hb.mono HB.out.size) : Below w.heap.size w w'); clear hb)
    go_roundg ((lo + hi) / 2 - lo)
    case measure => omega
    case rel =>
     have I2 : Aside0 ((∀ t,t < lo → lowK l0 key t = true) ∧ (∀ t,(lo + hi) / 2 ≤ t → t < l0.length → lowK l0 key t = false)) := ⟨I.out.1,fun t ht htn => by
      cases hq : lowK l0 key t with
      | false => rfl
      | true =>
       have := monoK_at M.out ht htn hq
       unfold lowK at this
       rw [Y.out] at this
       have := of_decide_eq_true this
       omega⟩
     exact ⟨lo,(lo + hi) / 2,rfl,by rw [show ((lo : Int) + (hi : Int)) / 2 = (((lo + hi) / 2 : Nat) : Int) by omega],by omega,by omega,Nat.le_refl _,HB2,I2⟩
  ·obtain rfl : hi = lo := by omega
   have ec : cnt = hi := CN.out.symm.trans (countP_cut _ z71 l0 hi hin (fun t ht => I.out.1 t ht) (fun t h3 h4 => I.out.2 t h3 h4))
   clear I M
   subst ec
   by_cases hn : cnt < l0.length
   ·have p0 : 0 ≤ (cnt : Int) := by omega
    have q0 : (cnt : Int) < (l0.length : Int) := by omega
    obtain ⟨ad,ea,h0,h1,h2⟩ := at_T71 HR.out (cnt : Int) p0 q0
    cases ea
    replace h0 := (HB.out.cell (World.block_lt_of_cell? w _ h0)).trans h0
    replace h1 := (HB.out.cell (World.block_lt_of_cell? w _ h1)).trans h1
    replace h2 := (HB.out.cell (World.block_lt_of_cell? w _ h2)).trans h2
    rw [Int.toNat_natCast] at h0 h1 h2
    generalize hy : rd_T71 l0 (cnt : Int) = y at h0 h1 h2
    have Y : Aside0 (l0.getD cnt z71 = y) := ⟨by rw [← hy]; unfold rd_T71; rw [Int.toNat_natCast]⟩
    clear hy
    have hc := fun W => find_cmp y.f0 y.f1 y.f2 key W
    have hyd : (⟨y.f0,y.f1,y.f2⟩ : S71) = y := rfl
    rw [hyd] at hc
    clear hyd
    have HC := Aside0.mk hc
    clear hc
    have F2 : Aside0 (fin = decide (cmpK key y = 0)) := ⟨by rw [← FIN.out]; unfold hasK; rw [CN.out,Y.out,decide_eq_true hn,Bool.true_and]⟩
    by_cases hyx : cmpK key y = 0
    ·go_wp2_with (go_at_call 74; refine (HC.out _).mono ?_; rintro e w' ⟨rfl,hb⟩; have HB2 := Aside0.mk (HB.out.trans (hb.mono HB.out.size) : Below w.heap.size w w'); clear hb)
     go_ret2
     exact ⟨by rw [F2.out]; simp [hyx],HB2.out⟩
    ·go_wp2_with (go_at_call 74; refine (HC.out _).mono ?_; rintro e w' ⟨rfl,hb⟩; have HB2 := Aside0.mk (HB.out.trans (hb.mono HB.out.size) : Below w.heap.size w w'); clear hb)
     go_ret2
     exact ⟨by rw [F2.out]; simp [hyx],HB2.out⟩
   ·have F2 : Aside0 (fin = false) := ⟨by rw [← FIN.out]; unfold hasK; rw [CN.out,decide_eq_false hn,Bool.false_and]⟩
    go_wp2
    go_ret2
    exact ⟨by rw [F2.out]; simp [hn],HB.out⟩
def impl_Store_find.f (l0 : List S71) (a1 : Int) (a2 : ByteArray) : Option (Int × Bool) := if l0.length ≤ 140737488351232 ∧ monoK l0 a2 = true then some ((cntK l0 a2 : Nat),hasK l0 a2) else none
set_option maxHeartbeats 2000000 in
theorem impl_Store_find.calls (A0 : Option Addr) (c0 : Nat) (l0 : List S71) (a1 : Int) (a2 : ByteArray) (r1 : Int) (r2 : Bool) (w : World) (hr0 : Kd.C k71 w A0 l0.length l0) (hc0 : l0.length ≤ c0) (h : impl_Store_find.f l0 a1 a2 = some (r1,r2)) :
  Calls Try.prog 58 #[.agg #[.slice A0 l0.length c0,.int .i64 a1],.string a2] w fun e w' => e = .returned (.tuple #[.int .i64 r1,.bool r2]) ∧ Below w.heap.size w w' := by
 unfold impl_Store_find.f at h
 split at h
 ·rename_i hb
  obtain ⟨rfl,rfl⟩ := Prod.mk.inj (Option.some.inj h)
  have hcon := Aside0.mk (fun W (hW : Below w.heap.size w W) => find_bs A0 c0 l0 a2 W (Kd.C_below hr0 hW) hb.1 hb.2)
  clear hr0 hc0 h hb
  generalize hasK l0 a2 = q at hcon ⊢
  generalize (cntK l0 a2 : Int) = n at hcon ⊢
  generalize l0.length = m at hcon ⊢
  have HB := Aside0.mk (Below.refl w.heap.size w)
  go_enter Try.func58,Try.ntmps58
  go_wp2_with (go_at_call 73; refine (hcon.out _ (by repeat (first | (with_reducible exact HB.out) | apply below_alloc | apply pw_below_drewN | apply below_drew1))).mono ?_; rintro e w' ⟨rfl,hb⟩; have HB2 := Aside0.mk hb; clear hb)
  go_ret2
  exact ⟨rfl,Below.trans (by repeat (first | (with_reducible exact HB.out) | apply below_alloc | apply pw_below_drewN | apply below_drew1)) (HB2.out.mono (by first | exact Nat.le_refl _ | exact HB.out.size | (simp; done) | (simp; omega)))⟩
 ·cases h

/-! ### impl_Store_versionCode: function 31 -/
def impl_Store_versionCode.f (k : Nat) (l0_0 : List (S71)) (a0_1 : Int) (a1 : ByteArray) (a2 : Int) : Option (Int) := (impl_Store_find.f l0_0 a0_1 a1).bind fun bt296 => (if bt296.2 = true then (if 0 ≤ bt296.1 then (if bt296.1 < (l0_0.length : Int) then ((impl_first.f k (([anyB (((rd_T71 l0_0 bt296.1).f1) != a2),anyI 10] : List AnyV))).bind fun t302 => (some t302)) else (none)) else (none)) else (some 5))
theorem impl_Store_versionCode.mono : ∀ a0 a1 a2 a3 k,LeO (impl_Store_versionCode.f k a0 a1 a2 a3) (impl_Store_versionCode.f (k + 1) a0 a1 a2 a3) := by
 intro a0 a1 a2 a3 k
 unfold impl_Store_versionCode.f
 repeat' first
   | (with_reducible exact impl_first.mono _ _)
   | (with_reducible exact LeO.refl _)
   | (with_reducible exact LeO.none _)
   | (with_reducible refine LeO.ite ?_ ?_)
   | (with_reducible refine LeO.bind ?_ (fun _ => ?_))
   | exact impl_first.mono _ _
   | exact LeO.none _
   | refine LeO.ite ?_ ?_
   | refine LeO.bind ?_ (fun _ => ?_)
set_option maxHeartbeats 8000000 in
set_option maxRecDepth 100000 in
theorem impl_Store_versionCode.calls (k : Nat) (A0_0 : Option Addr) (c0_0 : Nat) (l0_0 : List (S71)) (a0_1 : Int) (a1 : ByteArray) (a2 : Int) (r : Int) (w : World) (hr0_0 : Kd.C k71 w A0_0 l0_0.length l0_0) (hc0_0 : l0_0.length ≤ c0_0) (h : impl_Store_versionCode.f k l0_0 a0_1 a1 a2 = some r) :
  Calls Try.prog 31 #[.agg #[.slice A0_0 l0_0.length c0_0,.int .i64 a0_1],.string a1,.int .i64 a2] w fun e w' => e = .returned (.int .i64 r) ∧ Below w.heap.size w w' := by
 have hu28 := Try.underlying28
 have hua20 := Try.underlying20
 have HR0_0 := Aside0.mk hr0_0
 have HC0_0 := Aside0.mk hc0_0
 clear hr0_0 hc0_0
 have HB := Aside0.mk (Below.refl w.heap.size w)
 have H : ((impl_Store_find.f l0_0 a0_1 a1).bind fun bt296 => (if bt296.2 = true then (if 0 ≤ bt296.1 then (if bt296.1 < (l0_0.length : Int) then ((impl_first.f k (([anyB (((rd_T71 l0_0 bt296.1).f1) != a2),anyI 10] : List AnyV))).bind fun t302 => (some t302)) else (none)) else (none)) else (some 5))) = some r := h
 clear h
 replace H := Option.bind_eq_some_iff.mp H
 obtain ⟨⟨t296,t297⟩,A40,H⟩ := H
 try dsimp only at H
 have A4 := Aside0.mk A40
 clear A40
 by_cases c5 : t297 = true
 ·subst c5
  rw [if_pos rfl] at H
  by_cases c6 : 0 ≤ t296
  ·rw [if_pos c6] at H
   have c6b0 : decide (0 ≤ t296) = true := decide_eq_true c6
   clear c6
   by_cases c7 : t296 < (l0_0.length : Int)
   ·rw [if_pos c7] at H
    have c7b0 : decide (t296 < (l0_0.length : Int)) = true := decide_eq_true c7
    clear c7
    obtain ⟨y299,hy299⟩ : ∃ y_ : List AnyV,y_ = (([anyB (((rd_T71 l0_0 t296).f1) != a2),anyI 10] : List AnyV)) := ⟨_,rfl⟩
    replace H : ((impl_first.f k y299).bind fun t302 => (some t302)) = some r := by first | (rw [hy299]; with_reducible exact H) | (have H2_ := (Option.bind_some _ _).symm.trans H; rw [hy299]; with_reducible exact H2_) | (have H2_ := (Option.bind_some _ _).symm.trans H; with_reducible exact H2_) | with_reducible exact H | (rw [hy299]; exact H) | exact H
    have Ny299 := Aside0.mk hy299
    clear hy299
    replace H := Option.bind_eq_some_iff.mp H
    obtain ⟨t302,A80,H⟩ := H
    try dsimp only at H
    have A8 := Aside0.mk A80
    clear A80
    obtain rfl := Option.some.inj H
    go_enter Try.func31,Try.ntmps31
    go_wp2_with (first | ((with_reducible refine gate_dst (N:=3) rfl ?_); refine box_event ?hg (N:=3) ?hd (cs := #[.slice A0_0 l0_0.length c0_0,.int .i64 a0_1]) (t:=28) ?hr ?_; (case hd => rfl); (case hg => rfl); (case hr => first | (go_simp; done) | (go_simp; rfl)); intro gb295 hg w9 hbox hb; have n0_ := Aside0.mk (below_step bA hb); have n1_ := Aside0.mk (hbox); have n2_ := Aside0.mk ((by rw [hg]; exact (below_size bA) : w.heap.size ≤ gb295)); have n3_ := Aside0.mk ((by rw [hg]; exact (below_size bA) : w.heap.size ≤ gb295)); clear HB; have HB := n0_; have BK295 := n1_; have GW295 := n2_; have GE295 := n3_; clear n0_ n1_ n2_ n3_; clear hb hbox hg; have hcz10_0 : w9.cell? ⟨gb295,0,none⟩ = some (.slice A0_0 l0_0.length c0_0) := (blk_cell BK295.out 0).trans rfl; have hcz10_1 : w9.cell? ⟨gb295,1,none⟩ = some (.int .i64 a0_1) := (blk_cell BK295.out 1).trans rfl; have hfz10_0 := blk_frozen BK295.out 0; have hfz10_1 := blk_frozen BK295.out 1) | ((with_reducible refine gate_callee (f:=58) rfl ?_); refine goesL_ (some 12) rfl rfl Try.func58 (by kernel_rfl) rfl #[.agg #[.slice A0_0 l0_0.length c0_0,.int .i64 a0_1],.string a1] rfl mA ?_; (with_reducible refine (impl_Store_find.calls _ _ l0_0 a0_1 a1 t296 true _ ?side1 ?side2 A4.out).mono ?_); (case side1 => repeat (first | exact (Kd.C_below HR0_0.out HB.out) | (with_reducible refine Kd.C_alloc ?_ _) | (with_reducible refine Kd.C_drewN ?_ _) | (with_reducible refine Kd.C_drew ?_))); (case side2 => exact HC0_0.out); rintro e w11 ⟨rfl,hb⟩; refine ⟨_,rfl,?_⟩; have n0_ := Aside0.mk (blk_below (g:=gb295) (o:=.cells #[.slice A0_0 l0_0.length c0_0,.int .i64 a0_1] 28 (0,0)) (kA BK295.out) hb); have n1_ := Aside0.mk (below_step bA hb); clear BK295; clear HB; have BK295 := n0_; have HB := n1_; clear n0_ n1_; (try clear hb); (try clear hb2); (try clear hk); (try clear hi); have hcz12_0 : w11.cell? ⟨gb295,0,none⟩ = some (.slice A0_0 l0_0.length c0_0) := (blk_cell BK295.out 0).trans rfl; have hcz12_1 : w11.cell? ⟨gb295,1,none⟩ = some (.int .i64 a0_1) := (blk_cell BK295.out 1).trans rfl; have hfz12_0 := blk_frozen BK295.out 0; have hfz12_1 := blk_frozen BK295.out 1; have p298 : 0 ≤ (t296 : Int) := of_decide_eq_true (by first | (with_reducible assumption) | assumption); have q298 : t296 < (l0_0.length : Int) := of_decide_eq_true (by first | (with_reducible assumption) | assumption); obtain ⟨ad298,e298,hx298_0,hx298_1,hx298_2⟩ := at_T71 HR0_0.out t296 p298 q298; cases e298; replace hx298_0 := (HB.out.cell (World.block_lt_of_cell? w _ hx298_0)).trans hx298_0; replace hx298_1 := (HB.out.cell (World.block_lt_of_cell? w _ hx298_1)).trans hx298_1; replace hx298_2 := (HB.out.cell (World.block_lt_of_cell? w _ hx298_2)).trans hx298_2; replace p298 := eq_true p298; replace q298 := eq_true q298) | ((with_reducible refine gate_dst (N:=27) rfl ?_); refine Kd.R_lit kAny _ 20 ?hg (N:=27) ?hd (xs := ([anyB (((rd_T71 l0_0 t296).f1) != a2),anyI 10] : List AnyV)) (inner := [.iface 4 (.bool (((rd_T71 l0_0 t296).f1) != a2)),.iface 3 (.int .i64 10)]) (ok := fun _ => True) (okp := fun _ => True) ?hr ?hp (fun _ hk => hk) trivial (Below.refl _ _) (Nat.le_refl _) (by simp) ?_; (case hd => rfl); (case hg => rfl); (case hr => first | (go_simp; done) | (go_simp; rfl)); (case hp => exact (Reps.one (show Kd.M kAny _ _ _ (anyB (((rd_T71 l0_0 t296).f1) != a2)) [.iface 4 (.bool (((rd_T71 l0_0 t296).f1) != a2))] from rfl) (Reps.one (show Kd.M kAny _ _ _ (anyI 10) [.iface 3 (.int .i64 10)] from rfl) (Reps.none _ _)))); intro v300 w13 ho14 hb hg_ hnew_; clear hg_ hnew_; (first | rw [← Ny299.out] at ho14 | (simp only [Int.reduceToNat] at ho14; rw [← Ny299.out] at ho14)); have n0_ := Aside0.mk (Kd.R_lower ho14 (below_size bA)); have n1_ := Aside0.mk (blk_below (g:=gb295) (o:=.cells #[.slice (some ad298) l0_0.length c0_0,.int .i64 a0_1] 28 (0,0)) (kA BK295.out) hb); have n2_ := Aside0.mk (below_step bA hb); clear BK295; clear HB; have HO301 := n0_; have BK295 := n1_; have HB := n2_; clear n0_ n1_ n2_; clear hb ho14; obtain ⟨Ao15,co15,eo15⟩ := Kd.R_slice HO301.out; subst eo15) | ((with_reducible refine gate_callee (f:=28) rfl ?_); refine goesL_ (some 28) rfl rfl Try.func28 (by kernel_rfl) rfl #[.slice Ao15 y299.length co15] rfl mA ?_; (with_reducible refine (impl_first.calls k _ _ y299 t302 _ ?side1 ?side2 A8.out).mono ?_); (case side1 => repeat (first | exact (Kd.R_reads' HO301.out).2.2 | (with_reducible refine Kd.C_alloc ?_ _) | (with_reducible refine Kd.C_drewN ?_ _) | (with_reducible refine Kd.C_drew ?_))); (case side2 => exact (Kd.R_reads' HO301.out).2.1); rintro e w' ⟨rfl,⟨nd,rfl⟩⟩; refine ⟨_,rfl,?_⟩))
    go_ret
    exact ⟨by first | rfl | (simp [errW_none,errW_some] <;> rfl) | (simp [*,errW_none,errW_some] <;> rfl),bA⟩
   ·rw [if_neg c7] at H
    exact absurd H (by simp)
  ·rw [if_neg c6] at H
   exact absurd H (by simp)
 ·replace c5 := Bool.eq_false_iff.mpr c5
  subst c5
  rw [if_neg (show ¬ (false = true) by decide)] at H
  obtain rfl := Option.some.inj H
  go_enter Try.func31,Try.ntmps31
  go_wp2_with (first | ((with_reducible refine gate_dst (N:=3) rfl ?_); refine box_event ?hg (N:=3) ?hd (cs := #[.slice A0_0 l0_0.length c0_0,.int .i64 a0_1]) (t:=28) ?hr ?_; (case hd => rfl); (case hg => rfl); (case hr => first | (go_simp; done) | (go_simp; rfl)); intro gb295 hg w16 hbox hb; have n0_ := Aside0.mk (below_step bA hb); have n1_ := Aside0.mk (hbox); have n2_ := Aside0.mk ((by rw [hg]; exact (below_size bA) : w.heap.size ≤ gb295)); have n3_ := Aside0.mk ((by rw [hg]; exact (below_size bA) : w.heap.size ≤ gb295)); clear HB; have HB := n0_; have BK295 := n1_; have GW295 := n2_; have GE295 := n3_; clear n0_ n1_ n2_ n3_; clear hb hbox hg; have hcz17_0 : w16.cell? ⟨gb295,0,none⟩ = some (.slice A0_0 l0_0.length c0_0) := (blk_cell BK295.out 0).trans rfl; have hcz17_1 : w16.cell? ⟨gb295,1,none⟩ = some (.int .i64 a0_1) := (blk_cell BK295.out 1).trans rfl; have hfz17_0 := blk_frozen BK295.out 0; have hfz17_1 := blk_frozen BK295.out 1) | ((with_reducible refine gate_callee (f:=58) rfl ?_); refine goesL_ (some 12) rfl rfl Try.func58 (by kernel_rfl) rfl #[.agg #[.slice A0_0 l0_0.length c0_0,.int .i64 a0_1],.string a1] rfl mA ?_; (with_reducible refine (impl_Store_find.calls _ _ l0_0 a0_1 a1 t296 false _ ?side1 ?side2 A4.out).mono ?_); (case side1 => repeat (first | exact (Kd.C_below HR0_0.out HB.out) | (with_reducible refine Kd.C_alloc ?_ _) | (with_reducible refine Kd.C_drewN ?_ _) | (with_reducible refine Kd.C_drew ?_))); (case side2 => exact HC0_0.out); rintro e w18 ⟨rfl,hb⟩; refine ⟨_,rfl,?_⟩; have n0_ := Aside0.mk (blk_below (g:=gb295) (o:=.cells #[.slice A0_0 l0_0.length c0_0,.int .i64 a0_1] 28 (0,0)) (kA BK295.out) hb); have n1_ := Aside0.mk (below_step bA hb); clear BK295; clear HB; have BK295 := n0_; have HB := n1_; clear n0_ n1_; (try clear hb); (try clear hb2); (try clear hk); (try clear hi)))
  go_ret
  exact ⟨by first | rfl | (simp [errW_none,errW_some] <;> rfl) | (simp [*,errW_none,errW_some] <;> rfl),bA⟩

/-! ### impl_Object_59: function 59 -/
def impl_Object_59.f (l0 : List (S71)) : Option ((List (S71))) := (some (([] : List (S71)) : List (S71))).bind fun y303 => (if y303.length + l0.length < 3518437208883 then (some (y303 ++ l0)) else (none))
theorem nil_in59 (w : World) (d : Nat) (t e : TypeId) (P : Program) (a : Option Addr) (l c : Nat) (h : P.underlying t = some (.slice e)) : (Op.equalIn (d + 1) t (.slice a l c) (.slice none 0 0)).run P w = .ok a.isNone w := by
 cases a <;> simp [Op.equalIn,run_underlying h]
theorem nil_test59 (t e : TypeId) (P : Program) (a : Option Addr) (l c : Nat) (h : P.underlying t = some (.slice e)) (w : World) : (binOp .eql t (.slice a l c) (.slice none 0 0)).run P w = .ok (.bool a.isNone) w := by
 simp only [binOp]
 simp [Op.equal,Op.maxDepth,nil_in59 w 9999 t e P a l c h]
set_option maxHeartbeats 8000000 in
set_option maxRecDepth 100000 in
theorem impl_Object_59.calls (A0 : Option Addr) (c0 : Nat) (l0 : List (S71)) (r : List (S71)) (w : World) (hr0 : Kd.C k71 w A0 l0.length l0) (hc0 : l0.length ≤ c0) (h : impl_Object_59.f l0 = some r) :
  Calls Try.prog 59 #[.slice A0 l0.length c0] w fun e w' => ∃ v0_ : Value,e = .returned (v0_) ∧ Kd.R k71 71 w' w.heap.size (fun _ => True) v0_ r ∧ Below w.heap.size w w' := by
 cases A0 with
 | none =>
  obtain rfl : l0 = [] := by
   cases l0 with
   | nil => rfl
   | cons a_ l_ => obtain ⟨ad_,e_,_⟩ := hr0.2.2 (Nat.succ_pos _); cases e_
  obtain rfl : ([] : List (S71)) = r := by simpa [impl_Object_59.f] using h
  have HB := Aside0.mk (Below.refl w.heap.size w)
  have hnil_ := fun W : World => nil_test59 26 71 Try.prog none 0 c0 Try.underlying26 W
  go_enter Try.func59,Try.ntmps59
  go_wp2_with (first | (simp only [hnil_,Option.isNone_none]; simp only [Result.andThen]))
  go_ret
  exact ⟨_,rfl,by first | exact Kd.R_nil _ _ _ _ _ | exact Kd.N_nil _ _ _ _ _,HB.out⟩
 | some A0 =>
  have hnil_ := fun W : World => nil_test59 26 71 Try.prog (some A0) l0.length c0 Try.underlying26 W
  have HR0 := Aside0.mk hr0
  have HC0 := Aside0.mk hc0
  clear hr0 hc0
  have HB := Aside0.mk (Below.refl w.heap.size w)
  have H : ((some (([] : List (S71)) : List (S71))).bind fun y303 => (if y303.length + l0.length < 3518437208883 then (some (y303 ++ l0)) else (none))) = some r := h
  clear h
  obtain ⟨y303,hy303⟩ : ∃ y_ : List (S71),y_ = (([] : List (S71))) := ⟨_,rfl⟩
  replace H : (if y303.length + l0.length < 3518437208883 then (some (y303 ++ l0)) else (none)) = some r := by first | (rw [hy303]; with_reducible exact H) | (have H2_ := (Option.bind_some _ _).symm.trans H; rw [hy303]; with_reducible exact H2_) | (have H2_ := (Option.bind_some _ _).symm.trans H; with_reducible exact H2_) | with_reducible exact H | (rw [hy303]; exact H) | exact H
  have Ny303 := Aside0.mk hy303
  clear hy303
  by_cases c2 : y303.length + l0.length < 3518437208883
  ·rw [if_pos c2] at H
   have LMc2 := Aside0.mk c2
   clear c2
   obtain ⟨y306,hy306⟩ : ∃ y_ : List (S71),y_ = (y303 ++ l0) := ⟨_,rfl⟩
   replace H : (some y306) = some r := by first | (rw [hy306]; with_reducible exact H) | (have H2_ := (Option.bind_some _ _).symm.trans H; rw [hy306]; with_reducible exact H2_) | (have H2_ := (Option.bind_some _ _).symm.trans H; with_reducible exact H2_) | with_reducible exact H | (rw [hy306]; exact H) | exact H
   have Ny306 := Aside0.mk hy306
   clear hy306
   obtain rfl := Option.some.inj H
   go_enter Try.func59,Try.ntmps59
   go_wp2_with (first | (simp only [hnil_,Option.isNone_some]; simp only [Result.andThen]) | ((with_reducible refine gate_dst (N:=5) rfl ?_); refine Kd.R_lit k71 _ 71 ?hg (N:=5) ?hd (xs := ([] : List (S71))) (inner := []) (ok := fun _ => True) (okp := fun _ => True) ?hr ?hp (fun _ hk => hk) trivial (Below.refl _ _) (Nat.le_refl _) (by simp) ?_; (case hd => rfl); (case hg => rfl); (case hr => first | (go_simp; done) | (go_simp; rfl)); (case hp => exact (Reps.none _ _)); intro v304 w3 ho4 hb hg_ hnew_; clear hg_ hnew_; (first | rw [← Ny303.out] at ho4 | (simp only [Int.reduceToNat] at ho4; rw [← Ny303.out] at ho4)); have n0_ := Aside0.mk (Kd.R_lower ho4 (below_size bA)); have n1_ := Aside0.mk (below_step bA hb); clear HB; have HO305 := n0_; have HB := n1_; clear n0_ n1_; clear hb ho4) | ((with_reducible refine gate_builtin (b:=.append) (xs := #[.tmp 5,.tmp 6]) rfl ?_); at_builtin; refine Kd.R_append_rows k71 (w0 := w) w.heap.size rfl (.tmp 5) (.tmp 6) 26 71 (.agg #[(.string ⟨#[]⟩),(.int .i64 0),(.string ⟨#[]⟩)]) 40 rfl Try.underlying26 info71 rfl (by decide) (by omega) v304 y303 l0 _ _ _ (fun _ => True) (fun _ => False) rfl rfl ?aO ?aR (fun _ _ h => h) (fun _ h => h.elim) ?aF ?aB ?aS ?aL ?_; (case aR => repeat (first | exact (Kd.C_below HR0.out HB.out) | (with_reducible refine Kd.C_alloc ?_ _) | (with_reducible refine Kd.C_drewN ?_ _) | (with_reducible refine Kd.C_drew ?_))); (case aB => exact bA); (case aF => exact (fun _ _ => trivial)); (case aO => exact (rA HO305.out)); (case aS => exact (below_size bA)); (case aL => have := LMc2.out; omega); intro v307 w5 ho hb hg hat; rw [← Ny306.out] at ho; have n0_ := Aside0.mk (hb); have n1_ := Aside0.mk (ho); clear HB; clear HO305; have HB := n0_; have HO308 := n1_; clear n0_ n1_; clear ho hb hg hat))
   go_ret
   exact ⟨_,by first | rfl | (simp [errW_none,errW_some] <;> rfl) | (simp [*,errW_none,errW_some] <;> rfl),rA HO308.out,bA⟩
  ·rw [if_neg c2] at H
   exact absurd H (by simp)


/-! ### impl_Store_copied: function 32 -/
def impl_Store_copied.f (l0_0 : List (S71)) (a0_1 : Int) : Option ((List (S71)) × Int) := (impl_Object_59.f l0_0).bind fun t311 => (some (t311,a0_1))
set_option maxHeartbeats 8000000 in
set_option maxRecDepth 100000 in
theorem impl_Store_copied.calls (A0_0 : Option Addr) (c0_0 : Nat) (l0_0 : List (S71)) (a0_1 : Int) (r1 : List (S71)) (r2 : Int) (w : World) (hr0_0 : Kd.C k71 w A0_0 l0_0.length l0_0) (hc0_0 : l0_0.length ≤ c0_0) (h : impl_Store_copied.f l0_0 a0_1 = some (r1,r2)) :
  Calls Try.prog 32 #[.agg #[.slice A0_0 l0_0.length c0_0,.int .i64 a0_1]] w fun e w' => ∃ v0_ : Value,e = .returned (.agg #[v0_,.int .i64 r2]) ∧ Kd.R k71 71 w' w.heap.size (fun _ => True) v0_ r1 ∧ Below w.heap.size w w' := by
 have hu28 := Try.underlying28
 have HR0_0 := Aside0.mk hr0_0
 have HC0_0 := Aside0.mk hc0_0
 clear hr0_0 hc0_0
 have HB := Aside0.mk (Below.refl w.heap.size w)
 have H : ((impl_Object_59.f l0_0).bind fun t311 => (some (t311,a0_1))) = some (r1,r2) := h
 clear h
 replace H := Option.bind_eq_some_iff.mp H
 obtain ⟨t311,A20,H⟩ := H
 try dsimp only at H
 have A2 := Aside0.mk A20
 clear A20
 simp only [Option.some.injEq,Prod.mk.injEq] at H
 obtain ⟨rfl,rfl⟩ := H
 go_enter Try.func32,Try.ntmps32
 try go_wp2_with (first | ((with_reducible refine gate_dst (N:=1) rfl ?_); refine box_event ?hg (N:=1) ?hd (cs := #[.slice A0_0 l0_0.length c0_0,.int .i64 a0_1]) (t:=28) ?hr ?_; (case hd => rfl); (case hg => rfl); (case hr => first | (go_simp; done) | (go_simp; rfl)); intro gb309 hg w3 hbox hb; have n0_ := Aside0.mk (below_step bA hb); have n1_ := Aside0.mk (hbox); have n2_ := Aside0.mk ((by rw [hg]; exact (below_size bA) : w.heap.size ≤ gb309)); have n3_ := Aside0.mk ((by rw [hg]; exact (below_size bA) : w.heap.size ≤ gb309)); clear HB; have HB := n0_; have BK309 := n1_; have GW309 := n2_; have GE309 := n3_; clear n0_ n1_ n2_ n3_; clear hb hbox hg) | ((with_reducible refine gate_dst (N:=2) rfl ?_); refine box_event ?hg (N:=2) ?hd (cs := #[.slice none 0 0,.int .i64 0]) (t:=28) ?hr ?_; (case hd => rfl); (case hg => rfl); (case hr => first | (go_simp; done) | (go_simp; rfl)); intro gb310 hg w4 hbox hb; have n0_ := Aside0.mk (blk_below (g:=gb309) (o:=.cells #[.slice A0_0 l0_0.length c0_0,.int .i64 a0_1] 28 (0,0)) (kA BK309.out) hb); have n1_ := Aside0.mk (below_step bA hb); have n2_ := Aside0.mk (hbox); have n3_ := Aside0.mk ((by rw [hg]; exact (below_size bA) : w.heap.size ≤ gb310)); have n4_ := Aside0.mk ((by rw [hg]; exact (below_size bA) : w.heap.size ≤ gb310)); have n5_ := Aside0.mk ((by rw [hg]; exact Nat.ne_of_lt (blk_lt (g:=gb309) (o:=.cells #[.slice A0_0 l0_0.length c0_0,.int .i64 a0_1] 28 (0,0)) (kA BK309.out)) : gb309 ≠ gb310)); have n6_ := Aside0.mk ((by rw [hg]; exact Nat.ne_of_gt (blk_lt (g:=gb309) (o:=.cells #[.slice A0_0 l0_0.length c0_0,.int .i64 a0_1] 28 (0,0)) (kA BK309.out)) : gb310 ≠ gb309)); clear BK309; clear HB; have BK309 := n0_; have HB := n1_; have BK310 := n2_; have GW310 := n3_; have GE310 := n4_; have NB309_310 := n5_; have NB310_309 := n6_; clear n0_ n1_ n2_ n3_ n4_ n5_ n6_; clear hb hbox hg))
 have n0_ := Aside0.mk (blk_drew BK309.out)
 have n1_ := Aside0.mk (blk_drew BK310.out)
 have n2_ := Aside0.mk (below_drew1 HB.out)
 clear BK309
 clear BK310
 clear HB
 have BK309 := n0_
 have BK310 := n1_
 have HB := n2_
 clear n0_ n1_ n2_
 refine start_ (n:=7) (S:=fun w' => w'.cell? ⟨gb309,0,none⟩ = some (.slice A0_0 l0_0.length c0_0) ∧ w'.cell? ⟨gb309,1,none⟩ = some (.int .i64 a0_1)) (ds := []) (bm 7 0) (by kernel_rfl) rfl rfl ⟨(blk_cell BK309.out 0).trans rfl,(blk_cell BK309.out 1).trans rfl⟩ (fun hHeld => ?_)
 generalize w4.drew = w5 at BK309 BK310 HB hHeld ⊢
 refine pure_ (i:=0) (N:=some 3) (v:=?_) (a':=?_) (bm 7 1) rfl rfl (by kernel_rfl) (fun _ _ _ h => h) (Or.inl ⟨by rfl,?_⟩) ?_ ?_
 rotate_left
 ·intro w'
  go_simp
  with_reducible rfl
 rotate_left
 ·simp only [Act.put,setIfInBounds_toArray,set_cons_zero,set_cons_succ,i64_w,i32_w]
  rfl
 refine pure_ (i:=3) (N:=some 6) (v:=?_) (a':=?_) (bm 7 9) rfl rfl (by kernel_rfl) (fun _ _ _ h => h) (Or.inl ⟨by rfl,?_⟩) ?_ ?_
 rotate_left
 ·intro w'
  go_simp
  with_reducible rfl
 rotate_left
 ·simp only [Act.put,setIfInBounds_toArray,set_cons_zero,set_cons_succ,i64_w,i32_w]
  rfl
 refine take_ (i:=1) (N:=some 4) (v:=?_) (a':=?_) (bm 7 11) rfl rfl (by kernel_rfl) (fun _ _ _ h => h) (Or.inl ⟨by rfl,?_⟩) hHeld ?_ ?_
 rotate_left
 ·rintro w' ⟨s0,s1⟩
  go_simp
  with_reducible rfl
 rotate_left
 ·simp only [Act.put,setIfInBounds_toArray,set_cons_zero,set_cons_succ,i64_w,i32_w]
  rfl
 refine take_ (i:=4) (N:=some 7) (v:=?_) (a':=?_) (bm 7 27) rfl rfl (by kernel_rfl) (fun _ _ _ h => h) (Or.inl ⟨by rfl,?_⟩) hHeld ?_ ?_
 rotate_left
 ·rintro w' ⟨s0,s1⟩
  go_simp
  with_reducible rfl
 rotate_left
 ·simp only [Act.put,setIfInBounds_toArray,set_cons_zero,set_cons_succ,i64_w,i32_w]
  rfl
 refine one_ (i:=2) (N:=some 5) (bm 7 31) rfl rfl (by kernel_rfl) (by decide) (fun K hK => ?_)
 refine goes_ Try.func59 (by kernel_rfl) rfl #[.slice A0_0 l0_0.length c0_0] (by rfl) rfl rfl mA ?_
 with_reducible refine (impl_Object_59.calls _ _ l0_0 t311 _ ?side1 ?side2 A2.out).mono ?_
 (case side1 => repeat (first | exact (Kd.C_below HR0_0.out HB.out) | (with_reducible refine Kd.C_alloc ?_ _) | (with_reducible refine Kd.C_drewN ?_ _) | (with_reducible refine Kd.C_drew ?_)))
 (case side2 => exact HC0_0.out)
 rintro e w6 ⟨v312,rfl,ho0,hb⟩
 refine ⟨_,rfl,?_⟩
 have n0_ := Aside0.mk (Kd.R_lower ho0 (below_size bA))
 have n1_ := Aside0.mk (blk_below (g:=gb309) (o:=.cells #[.slice A0_0 l0_0.length c0_0,.int .i64 a0_1] 28 (0,0)) (kA BK309.out) hb)
 have n2_ := Aside0.mk (blk_below (g:=gb310) (o:=.cells #[.slice none 0 0,.int .i64 0] 28 (0,0)) (kA BK310.out) hb)
 have n3_ := Aside0.mk (below_step bA hb)
 clear BK309
 clear BK310
 clear HB
 have HO313 := n0_
 have BK309 := n1_
 have BK310 := n2_
 have HB := n3_
 clear n0_ n1_ n2_ n3_
 (try clear hb)
 (try clear hb2)
 (try clear hk)
 (try clear hi)
 (try clear ho0)
 obtain ⟨Ao7,co7,eo7⟩ := Kd.R_slice HO313.out
 (first | subst eo7 | (injection eo7 with f1_ f2_ f3_; have f4_ := f1_.symm; have f5_ := f3_.symm; clear f1_ f2_ f3_; subst f4_; subst f5_))
 refine hK.out _ _ ⟨(blk_cell BK309.out 0).trans rfl,(blk_cell BK309.out 1).trans rfl⟩ (fun hHeld => ?_)
 clear hK K
 refine norm_ (a':=?_) ?_ ?_
 rotate_left
 ·show Act.put _ (some 5) _ = _
  simp only [Act.put,setIfInBounds_toArray,set_cons_zero,set_cons_succ,i64_w,i32_w]
  rfl
 refine pure_ (i:=5) (N:=some 8) (v:=?_) (a':=?_) (bm 7 63) rfl rfl (by kernel_rfl) (fun _ _ _ h => h) (Or.inl ⟨by rfl,?_⟩) ?_ ?_
 rotate_left
 ·intro w'
  go_simp
  with_reducible rfl
 rotate_left
 ·simp only [Act.put,setIfInBounds_toArray,set_cons_zero,set_cons_succ,i64_w,i32_w]
  rfl
 refine one_ (i:=6) (N:=none) (bm 7 127) rfl rfl (by kernel_rfl) (by decide) (fun K hK => ?_)
 have hs8 : w6.cell? ⟨gb310,0,none⟩ = some (.slice none 0 0) := (blk_cell BK310.out 0).trans rfl
 have hfs8 := blk_frozen BK310.out 0
 have hns8_0 := NB309_310.out
 have hms8_0 := NB310_309.out
 have hs9 : w6.cell? ⟨gb310,1,none⟩ = some (.int .i64 0) := (blk_cell BK310.out 1).trans rfl
 have hfs9 := blk_frozen BK310.out 1
 have hns9_0 := NB309_310.out
 have hms9_0 := NB310_309.out
 refine skip_ (w1 := ?_) (by rfl) rfl ?_ ?_
 rotate_left
 ·go_simp
  rfl
 refine hK.out _ _ ⟨((cell_far (p:=⟨gb310,_,none⟩) NB309_310.out _).trans (((cell_far (p:=⟨gb310,_,none⟩) NB309_310.out _).trans (hHeld.1)))),((cell_far (p:=⟨gb310,_,none⟩) NB309_310.out _).trans (((cell_far (p:=⟨gb310,_,none⟩) NB309_310.out _).trans (hHeld.2))))⟩ (fun hHeld => ?_)
 clear hK K
 refine done_ (by kernel_rfl) ?_
 try go_wp2
 refine bodyPost_ret (results_cell_row rfl _ _ gb310 28 #[.slice Ao7 t311.length co7,.int .i64 a0_1] (0,0) _ rfl (by (with_reducible repeat (first | refine blk_drewN ?_ _ | refine blk_drew ?_ | refine blk_alloc ?_ _)); refine blk_put (cs := #[.slice Ao7 t311.length co7,.int .i64 0]) ?_ 1 _ rfl; (with_reducible repeat (first | refine blk_drewN ?_ _ | refine blk_drew ?_ | refine blk_alloc ?_ _)); refine blk_put (cs := #[.slice none 0 0,.int .i64 0]) ?_ 0 _ rfl; (with_reducible repeat (first | refine blk_drewN ?_ _ | refine blk_drew ?_ | refine blk_alloc ?_ _)); exact BK310.out) Try.underlying28 rfl (by kernel_rfl)) rfl ?_
 exact ⟨_,by first | rfl | (simp [errW_none,errW_some] <;> rfl) | (simp [*,errW_none,errW_some] <;> rfl),by (with_reducible repeat (first | apply Kd.R_alloc | apply Kd.R_drewN | apply Kd.R_drew)); exact Kd.R_mono (Kd.R_far (p:=⟨gb310,1,none⟩) (Kd.R_far (p:=⟨gb310,0,none⟩) (Kd.R_types HO313.out BK310.out (by decide)) (fun _ hk => hk.2) (.slice Ao7 t311.length co7)) (fun _ hk => hk.2) (.int .i64 a0_1)) (fun _ hk => trivial),bA⟩

end Go.Proofs.Ytbodkbaniebfaaa.XFnExactPutVersion
