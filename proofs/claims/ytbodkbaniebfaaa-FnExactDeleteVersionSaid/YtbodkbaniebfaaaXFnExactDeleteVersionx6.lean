-- Printed by this session's own program wip/tools/xprint.py, which widens the kit's print. Not trusted: Lean checks it.
import Derived.Test.YtbodkbaniebfaaaXFnExactDeleteVersionx0
import Derived.Test.YtbodkbaniebfaaaXFnExactDeleteVersionx4
import Derived.Test.YtbodkbaniebfaaaXFnExactDeleteVersionx5
namespace Go.Proofs.Ytbodkbaniebfaaa.XFnExactDeleteVersion
open List (setIfInBounds_toArray set_cons_zero set_cons_succ)
open Go.RowKit Go.Proofs.YtbodkbaniebfaaaW.PrintWords Go.Proofs.YtbodkbaniebfaaaW.PrintLast Go.Proofs.YtbodkbaniebfaaaW.PrintMore
attribute [local go_sem] max2_int min2_int max_two min_two max_three min_three max_four min_four   -- for this text's walks alone
set_option linter.unusedVariables false
set_option linter.unusedSimpArgs false

/-! ### impl_storeCode: function 30 -/
def impl_storeCode.f (k : Nat) (l0_0 : List (S71)) (a0_1 : Int) (a1 : ByteArray) : Option (Int) := (impl_StoreOK.f k l0_0 a0_1).bind fun t192 => ((impl_KeyOK.f k a1).bind fun t193 => ((impl_first.f k (([anyB (!t192),anyI 1,anyB (!t193),anyI 19] : List AnyV))).bind fun t197 => (some t197)))
theorem impl_storeCode.mono : ∀ a0 a1 a2 k,LeO (impl_storeCode.f k a0 a1 a2) (impl_storeCode.f (k + 1) a0 a1 a2) := by
 intro a0 a1 a2 k
 unfold impl_storeCode.f
 repeat' first
   | (with_reducible exact impl_KeyOK.mono _ _)
   | (with_reducible exact impl_StoreOK.mono _ _ _)
   | (with_reducible exact impl_first.mono _ _)
   | (with_reducible exact LeO.refl _)
   | (with_reducible exact LeO.none _)
   | (with_reducible refine LeO.ite ?_ ?_)
   | (with_reducible refine LeO.bind ?_ (fun _ => ?_))
   | exact impl_KeyOK.mono _ _
   | exact impl_StoreOK.mono _ _ _
   | exact impl_first.mono _ _
   | exact LeO.none _
   | refine LeO.ite ?_ ?_
   | refine LeO.bind ?_ (fun _ => ?_)
set_option maxHeartbeats 8000000 in
set_option maxRecDepth 100000 in
theorem impl_storeCode.calls (k : Nat) (A0_0 : Option Addr) (c0_0 : Nat) (l0_0 : List (S71)) (a0_1 : Int) (a1 : ByteArray) (r : Int) (w : World) (hr0_0 : Kd.C k71 w A0_0 l0_0.length l0_0) (hc0_0 : l0_0.length ≤ c0_0) (h : impl_storeCode.f k l0_0 a0_1 a1 = some r) :
  Calls Try.prog 30 #[.agg #[.slice A0_0 l0_0.length c0_0,.int .i64 a0_1],.string a1] w fun e w' => e = .returned (.int .i64 r) ∧ Below w.heap.size w w' := by
 have hu28 := Try.underlying28
 have hua20 := Try.underlying20
 have HR0_0 := Aside0.mk hr0_0
 have HC0_0 := Aside0.mk hc0_0
 clear hr0_0 hc0_0
 have HB := Aside0.mk (Below.refl w.heap.size w)
 have H : ((impl_StoreOK.f k l0_0 a0_1).bind fun t192 => ((impl_KeyOK.f k a1).bind fun t193 => ((impl_first.f k (([anyB (!t192),anyI 1,anyB (!t193),anyI 19] : List AnyV))).bind fun t197 => (some t197)))) = some r := h
 clear h
 replace H := Option.bind_eq_some_iff.mp H
 obtain ⟨t192,A30,H⟩ := H
 try dsimp only at H
 have A3 := Aside0.mk A30
 clear A30
 replace H := Option.bind_eq_some_iff.mp H
 obtain ⟨t193,A40,H⟩ := H
 try dsimp only at H
 have A4 := Aside0.mk A40
 clear A40
 obtain ⟨y194,hy194⟩ : ∃ y_ : List AnyV,y_ = (([anyB (!t192),anyI 1,anyB (!t193),anyI 19] : List AnyV)) := ⟨_,rfl⟩
 replace H : ((impl_first.f k y194).bind fun t197 => (some t197)) = some r := by first | (rw [hy194]; with_reducible exact H) | (have H2_ := (Option.bind_some _ _).symm.trans H; rw [hy194]; with_reducible exact H2_) | (have H2_ := (Option.bind_some _ _).symm.trans H; with_reducible exact H2_) | with_reducible exact H | (rw [hy194]; exact H) | exact H
 have Ny194 := Aside0.mk hy194
 clear hy194
 replace H := Option.bind_eq_some_iff.mp H
 obtain ⟨t197,A50,H⟩ := H
 try dsimp only at H
 have A5 := Aside0.mk A50
 clear A50
 obtain rfl := Option.some.inj H
 go_enter Try.func30,Try.ntmps30
 go_wp2_with (first | ((with_reducible refine gate_dst (N:=2) rfl ?_); refine box_event ?hg (N:=2) ?hd (cs := #[.slice A0_0 l0_0.length c0_0,.int .i64 a0_1]) (t:=28) ?hr ?_; (case hd => rfl); (case hg => rfl); (case hr => first | (go_simp; done) | (go_simp; rfl)); intro gb191 hg w6 hbox hb; have n0_ := Aside0.mk (below_step bA hb); have n1_ := Aside0.mk (hbox); have n2_ := Aside0.mk ((by rw [hg]; exact (below_size bA) : w.heap.size ≤ gb191)); have n3_ := Aside0.mk ((by rw [hg]; exact (below_size bA) : w.heap.size ≤ gb191)); clear HB; have HB := n0_; have BK191 := n1_; have GW191 := n2_; have GE191 := n3_; clear n0_ n1_ n2_ n3_; clear hb hbox hg; have hcz7_0 : w6.cell? ⟨gb191,0,none⟩ = some (.slice A0_0 l0_0.length c0_0) := (blk_cell BK191.out 0).trans rfl; have hcz7_1 : w6.cell? ⟨gb191,1,none⟩ = some (.int .i64 a0_1) := (blk_cell BK191.out 1).trans rfl; have hfz7_0 := blk_frozen BK191.out 0; have hfz7_1 := blk_frozen BK191.out 1) | ((with_reducible refine gate_callee (f:=40) rfl ?_); refine goesL_ (some 6) rfl rfl Try.func40 (by kernel_rfl) rfl #[.agg #[.slice A0_0 l0_0.length c0_0,.int .i64 a0_1]] rfl mA ?_; (with_reducible refine (impl_StoreOK.calls k _ _ l0_0 a0_1 t192 _ ?side1 ?side2 A3.out).mono ?_); (case side1 => repeat (first | exact (Kd.C_below HR0_0.out HB.out) | (with_reducible refine Kd.C_alloc ?_ _) | (with_reducible refine Kd.C_drewN ?_ _) | (with_reducible refine Kd.C_drew ?_))); (case side2 => exact HC0_0.out); rintro e w8 ⟨rfl,hb⟩; refine ⟨_,rfl,?_⟩; have n0_ := Aside0.mk (blk_below (g:=gb191) (o:=.cells #[.slice A0_0 l0_0.length c0_0,.int .i64 a0_1] 28 (0,0)) (kA BK191.out) hb); have n1_ := Aside0.mk (below_step bA hb); clear BK191; clear HB; have BK191 := n0_; have HB := n1_; clear n0_ n1_; (try clear hb); (try clear hb2); (try clear hk); (try clear hi)) | ((with_reducible refine gate_callee (f:=57) rfl ?_); refine goesL_ (some 11) rfl rfl Try.func57 (by kernel_rfl) rfl #[.string a1] rfl mA ?_; (with_reducible refine (impl_KeyOK.calls k a1 t193 _ A4.out).mono ?_); rintro e w' ⟨rfl,⟨nd,rfl⟩⟩; refine ⟨_,rfl,?_⟩) | ((with_reducible refine gate_dst (N:=15) rfl ?_); refine Kd.R_lit kAny _ 20 ?hg (N:=15) ?hd (xs := ([anyB (!t192),anyI 1,anyB (!t193),anyI 19] : List AnyV)) (inner := [.iface 4 (.bool (!t192)),.iface 3 (.int .i64 1),.iface 4 (.bool (!t193)),.iface 3 (.int .i64 19)]) (ok := fun _ => True) (okp := fun _ => True) ?hr ?hp (fun _ hk => hk) trivial (Below.refl _ _) (Nat.le_refl _) (by simp) ?_; (case hd => rfl); (case hg => rfl); (case hr => first | (go_simp; done) | (go_simp; rfl)); (case hp => exact (Reps.one (show Kd.M kAny _ _ _ (anyB (!t192)) [.iface 4 (.bool (!t192))] from rfl) (Reps.one (show Kd.M kAny _ _ _ (anyI 1) [.iface 3 (.int .i64 1)] from rfl) (Reps.one (show Kd.M kAny _ _ _ (anyB (!t193)) [.iface 4 (.bool (!t193))] from rfl) (Reps.one (show Kd.M kAny _ _ _ (anyI 19) [.iface 3 (.int .i64 19)] from rfl) (Reps.none _ _)))))); intro v195 w9 ho10 hb hg_ hnew_; clear hg_ hnew_; (first | rw [← Ny194.out] at ho10 | (simp only [Int.reduceToNat] at ho10; rw [← Ny194.out] at ho10)); have n0_ := Aside0.mk (Kd.R_lower ho10 (below_size bA)); have n1_ := Aside0.mk (blk_below (g:=gb191) (o:=.cells #[.slice A0_0 l0_0.length c0_0,.int .i64 a0_1] 28 (0,0)) (kA BK191.out) hb); have n2_ := Aside0.mk (below_step bA hb); clear BK191; clear HB; have HO196 := n0_; have BK191 := n1_; have HB := n2_; clear n0_ n1_ n2_; clear hb ho10; obtain ⟨Ao11,co11,eo11⟩ := Kd.R_slice HO196.out; subst eo11) | ((with_reducible refine gate_callee (f:=28) rfl ?_); refine goesL_ (some 16) rfl rfl Try.func28 (by kernel_rfl) rfl #[.slice Ao11 y194.length co11] rfl mA ?_; (with_reducible refine (impl_first.calls k _ _ y194 t197 _ ?side1 ?side2 A5.out).mono ?_); (case side1 => repeat (first | exact (Kd.R_reads' HO196.out).2.2 | (with_reducible refine Kd.C_alloc ?_ _) | (with_reducible refine Kd.C_drewN ?_ _) | (with_reducible refine Kd.C_drew ?_))); (case side2 => exact (Kd.R_reads' HO196.out).2.1); rintro e w' ⟨rfl,⟨nd,rfl⟩⟩; refine ⟨_,rfl,?_⟩))
 go_ret
 exact ⟨by first | rfl | (simp [errW_none,errW_some] <;> rfl) | (simp [*,errW_none,errW_some] <;> rfl),bA⟩

/-! ### impl_Store_find: function 58 (by hand) -/
def cmpK (key : ByteArray) (x : S71) : Int := Lib.compareBytes x.f0.data.toList key.data.toList
def lowK (l : List S71) (key : ByteArray) (i : Nat) : Bool := decide (cmpK key (l.getD i z71) < 0)
def cntK (l : List S71) (key : ByteArray) : Nat := l.countP (fun x => decide (cmpK key x < 0))
def hasK (l : List S71) (key : ByteArray) : Bool := decide (cntK l key < l.length) && decide (cmpK key (l.getD (cntK l key) z71) = 0)
def monoK (l : List S71) (key : ByteArray) : Bool := (List.range l.length).all fun b => !(lowK l key b) || (List.range b).all fun a => lowK l key a
theorem monoK_at {l : List S71} {key : ByteArray} (h : monoK l key = true) {a b : Nat} (hab : a ≤ b) (hb : b < l.length) (hl : lowK l key b = true) : lowK l key a = true := by
 unfold monoK at h
 rw [List.all_eq_true] at h
 have := h b (List.mem_range.2 hb)
 rw [hl] at this
 rw [Bool.not_true,Bool.false_or,List.all_eq_true] at this
 rcases Nat.eq_or_lt_of_le hab with rfl | hlt
 ·exact hl
 ·exact this a (List.mem_range.2 hlt)
theorem countP_cut {α : Type} (p : α → Bool) (d : α) : ∀ (l : List α) (i : Nat),i ≤ l.length → (∀ t,t < i → p (l.getD t d) = true) → (∀ t,i ≤ t → t < l.length → p (l.getD t d) = false) → l.countP p = i
 | [],i,hi,_,_ => by simp at hi; simp [hi]
 | a :: r,0,_,_,h2 => by
  rw [List.countP_eq_zero]
  intro x hx
  obtain ⟨t,ht,rfl⟩ := List.getElem_of_mem hx
  have := h2 t (Nat.zero_le _) ht
  rw [List.getD_eq_getElem?_getD,List.getElem?_eq_getElem ht] at this
  simpa using this
 | a :: r,i + 1,hi,h1,h2 => by
  have ha : p a = true := by simpa using h1 0 (Nat.succ_pos _)
  rw [List.countP_cons_of_pos ha,countP_cut p d r i (by simpa using hi) (fun t ht => by simpa using h1 (t + 1) (by omega)) (fun t h3 h4 => by simpa using h2 (t + 1) (by omega) (by simpa using h4))]
theorem find_cmp (x0 : ByteArray) (x1 : Int) (x2 : ByteArray) (key : ByteArray) (W : World) : Calls Try.prog 74 #[.agg #[.string x0,.int .i64 x1,.string x2],.string key] W fun e w' => e = .returned (.int .i64 (cmpK key ⟨x0,x1,x2⟩)) ∧ Below W.heap.size W w' := by
 unfold cmpK
 have HB := Aside0.mk (Below.refl W.heap.size W)
 go_enter Try.func74,Try.ntmps74
 go_wp2_with (go_at_call 75; refine (Try.strings_Compare _ _ _).mono ?_; rintro e w' ⟨rfl,rfl⟩)
 go_ret
 exact ⟨rfl,by repeat (first | (with_reducible exact HB.out) | apply below_alloc | apply pw_below_drewN | apply below_drew1)⟩
set_option maxHeartbeats 4000000 in
set_option maxRecDepth 100000 in
theorem find_bs (A0 : Option Addr) (c0 : Nat) (l0 : List S71) (key : ByteArray) (w : World) (hr0 : Kd.C k71 w A0 l0.length l0) (hsz : l0.length ≤ 140737488351232) (hm : monoK l0 key = true) :
  Calls Try.prog 73 #[.slice A0 l0.length c0,.string key,.func (.func 74) #[] #[]] w fun e w' =>
   e = .returned (.tuple #[.int .i64 (cntK l0 key : Nat),.bool (hasK l0 key)]) ∧ Below w.heap.size w w' := by
 have HR := Aside0.mk hr0
 have M := Aside0.mk hm
 have S0 := Aside0.mk (Below.refl w.heap.size w)
 have u44 := Try.underlying71
 clear hr0 hm
 generalize hcnt : cntK l0 key = cnt
 have CN := Aside0.mk hcnt
 clear hcnt
 generalize hfin : hasK l0 key = fin
 have FIN := Aside0.mk hfin
 clear hfin
 go_enter Try.func73,Try.ntmps73
 go_wp2
 go_loopg [9,10] l0.length (fun kx s9 s10 wr => ∃ lo hi : Nat,s9 = .int .i64 lo ∧ s10 = .int .i64 hi ∧ lo ≤ hi ∧ hi ≤ l0.length ∧ hi - lo ≤ kx ∧ Aside0 (Below w.heap.size w wr) ∧ Aside0 ((∀ t,t < lo → lowK l0 key t = true) ∧ (∀ t,hi ≤ t → t < l0.length → lowK l0 key t = false)))
 case atStart => exact ⟨0,l0.length,rfl,rfl,Nat.zero_le _,Nat.le_refl _,by omega,S0,⟨fun t ht => absurd ht (Nat.not_lt_zero _),fun t h1 h2 => by omega⟩⟩
 case round =>
  clear S0
  obtain ⟨lo,hi,rfl,rfl,hlh,hin,hg,HB,I⟩ := hrel
  by_cases hlt : lo < hi
  ·have p0 : 0 ≤ ((lo : Int) + (hi : Int)) / 2 := by omega
   have q0 : ((lo : Int) + (hi : Int)) / 2 < (l0.length : Int) := by omega
   obtain ⟨ad,ea,h0,h1,h2⟩ := at_T71 HR.out (((lo : Int) + (hi : Int)) / 2) p0 q0
   cases ea
   replace h0 := (HB.out.cell (World.block_lt_of_cell? w _ h0)).trans h0
   replace h1 := (HB.out.cell (World.block_lt_of_cell? w _ h1)).trans h1
   replace h2 := (HB.out.cell (World.block_lt_of_cell? w _ h2)).trans h2
   have eN : (((lo : Int) + (hi : Int)) / 2).toNat = (lo + hi) / 2 := by omega
   rw [eN] at h0 h1 h2
   generalize hy : rd_T71 l0 (((lo : Int) + (hi : Int)) / 2) = y at h0 h1 h2
   have Y : Aside0 (l0.getD ((lo + hi) / 2) z71 = y) := ⟨by rw [← hy]; unfold rd_T71; rw [eN]⟩
   clear hy eN
   have hc := fun W => find_cmp y.f0 y.f1 y.f2 key W
   have hyd : (⟨y.f0,y.f1,y.f2⟩ : S71) = y := rfl
   rw [hyd] at hc
   clear hyd
   have HC := Aside0.mk hc
   clear hc
   by_cases hyx : cmpK key y < 0
   ·go_wp2_with (go_at_call 74; refine (HC.out _).mono ?_; rintro e w' ⟨rfl,hb⟩; have HB2 := Aside0.mk (HB.out.trans (hb.mono HB.out.size) : Below w.heap.size w w'); clear hb)
    go_roundg (hi - ((lo + hi) / 2 + 1))
    case measure => omega
    case rel =>
     have I2 : Aside0 ((∀ t,t < (lo + hi) / 2 + 1 → lowK l0 key t = true) ∧ (∀ t,hi ≤ t → t < l0.length → lowK l0 key t = false)) := ⟨fun t ht => monoK_at M.out (show t ≤ (lo + hi) / 2 by omega) (by omega) (by unfold lowK; rw [Y.out]; exact decide_eq_true hyx),I.out.2⟩
     exact ⟨(lo + hi) / 2 + 1,hi,by rw [show ((lo : Int) + (hi : Int)) / 2 + 1 = (((lo + hi) / 2 + 1 : Nat) : Int) by omega],rfl,by omega,hin,Nat.le_refl _,HB2,I2⟩
   ·go_wp2_with (go_at_call 74; refine (HC.out _).mono ?_; rintro e w' ⟨rfl,hb⟩; have HB2 := Aside0.mk (HB.out.trans (hb.mono HB.out.size) : Below w.heap.size w w'); clear hb)
    go_roundg ((lo + hi) / 2 - lo)
    case measure => omega
    case rel =>
     have I2 : Aside0 ((∀ t,t < lo → lowK l0 key t = true) ∧ (∀ t,(lo + hi) / 2 ≤ t → t < l0.length → lowK l0 key t = false)) := ⟨I.out.1,fun t ht htn => by
      cases hq : lowK l0 key t with
      | false => rfl
      | true =>
       have := monoK_at M.out ht htn hq
       unfold lowK at this
       rw [Y.out] at this
       have := of_decide_eq_true this
       omega⟩
     exact ⟨lo,(lo + hi) / 2,rfl,by rw [show ((lo : Int) + (hi : Int)) / 2 = (((lo + hi) / 2 : Nat) : Int) by omega],by omega,by omega,Nat.le_refl _,HB2,I2⟩
  ·obtain rfl : hi = lo := by omega
   have ec : cnt = hi := CN.out.symm.trans (countP_cut _ z71 l0 hi hin (fun t ht => I.out.1 t ht) (fun t h3 h4 => I.out.2 t h3 h4))
   clear I M
   subst ec
   by_cases hn : cnt < l0.length
   ·have p0 : 0 ≤ (cnt : Int) := by omega
    have q0 : (cnt : Int) < (l0.length : Int) := by omega
    obtain ⟨ad,ea,h0,h1,h2⟩ := at_T71 HR.out (cnt : Int) p0 q0
    cases ea
    replace h0 := (HB.out.cell (World.block_lt_of_cell? w _ h0)).trans h0
    replace h1 := (HB.out.cell (World.block_lt_of_cell? w _ h1)).trans h1
    replace h2 := (HB.out.cell (World.block_lt_of_cell? w _ h2)).trans h2
    rw [Int.toNat_natCast] at h0 h1 h2
    generalize hy : rd_T71 l0 (cnt : Int) = y at h0 h1 h2
    have Y : Aside0 (l0.getD cnt z71 = y) := ⟨by rw [← hy]; unfold rd_T71; rw [Int.toNat_natCast]⟩
    clear hy
    have hc := fun W => find_cmp y.f0 y.f1 y.f2 key W
    have hyd : (⟨y.f0,y.f1,y.f2⟩ : S71) = y := rfl
    rw [hyd] at hc
    clear hyd
    have HC := Aside0.mk hc
    clear hc
    have F2 : Aside0 (fin = decide (cmpK key y = 0)) := ⟨by rw [← FIN.out]; unfold hasK; rw [CN.out,Y.out,decide_eq_true hn,Bool.true_and]⟩
    by_cases hyx : cmpK key y = 0
    ·go_wp2_with (go_at_call 74; refine (HC.out _).mono ?_; rintro e w' ⟨rfl,hb⟩; have HB2 := Aside0.mk (HB.out.trans (hb.mono HB.out.size) : Below w.heap.size w w'); clear hb)
     go_ret2
     exact ⟨by rw [F2.out]; simp [hyx],HB2.out⟩
    ·go_wp2_with (go_at_call 74; refine (HC.out _).mono ?_; rintro e w' ⟨rfl,hb⟩; have HB2 := Aside0.mk (HB.out.trans (hb.mono HB.out.size) : Below w.heap.size w w'); clear hb)
     go_ret2
     exact ⟨by rw [F2.out]; simp [hyx],HB2.out⟩
   ·have F2 : Aside0 (fin = false) := ⟨by rw [← FIN.out]; unfold hasK; rw [CN.out,decide_eq_false hn,Bool.false_and]⟩
    go_wp2
    go_ret2
    exact ⟨by rw [F2.out]; simp [hn],HB.out⟩
def impl_Store_find.f (l0 : List S71) (a1 : Int) (a2 : ByteArray) : Option (Int × Bool) := if l0.length ≤ 140737488351232 ∧ monoK l0 a2 = true then some ((cntK l0 a2 : Nat),hasK l0 a2) else none
set_option maxHeartbeats 2000000 in
theorem impl_Store_find.calls (A0 : Option Addr) (c0 : Nat) (l0 : List S71) (a1 : Int) (a2 : ByteArray) (r1 : Int) (r2 : Bool) (w : World) (hr0 : Kd.C k71 w A0 l0.length l0) (hc0 : l0.length ≤ c0) (h : impl_Store_find.f l0 a1 a2 = some (r1,r2)) :
  Calls Try.prog 58 #[.agg #[.slice A0 l0.length c0,.int .i64 a1],.string a2] w fun e w' => e = .returned (.tuple #[.int .i64 r1,.bool r2]) ∧ Below w.heap.size w w' := by
 unfold impl_Store_find.f at h
 split at h
 ·rename_i hb
  obtain ⟨rfl,rfl⟩ := Prod.mk.inj (Option.some.inj h)
  have hcon := Aside0.mk (fun W (hW : Below w.heap.size w W) => find_bs A0 c0 l0 a2 W (Kd.C_below hr0 hW) hb.1 hb.2)
  clear hr0 hc0 h hb
  generalize hasK l0 a2 = q at hcon ⊢
  generalize (cntK l0 a2 : Int) = n at hcon ⊢
  generalize l0.length = m at hcon ⊢
  have HB := Aside0.mk (Below.refl w.heap.size w)
  go_enter Try.func58,Try.ntmps58
  go_wp2_with (go_at_call 73; refine (hcon.out _ (by repeat (first | (with_reducible exact HB.out) | apply below_alloc | apply pw_below_drewN | apply below_drew1))).mono ?_; rintro e w' ⟨rfl,hb⟩; have HB2 := Aside0.mk hb; clear hb)
  go_ret2
  exact ⟨rfl,Below.trans (by repeat (first | (with_reducible exact HB.out) | apply below_alloc | apply pw_below_drewN | apply below_drew1)) (HB2.out.mono (by first | exact Nat.le_refl _ | exact HB.out.size | (simp; done) | (simp; omega)))⟩
 ·cases h

/-! ### impl_Store_versionCode: function 31 -/
def impl_Store_versionCode.f (k : Nat) (l0_0 : List (S71)) (a0_1 : Int) (a1 : ByteArray) (a2 : Int) : Option (Int) := (impl_Store_find.f l0_0 a0_1 a1).bind fun bt199 => (if bt199.2 = true then (if 0 ≤ bt199.1 then (if bt199.1 < (l0_0.length : Int) then ((impl_first.f k (([anyB (((rd_T71 l0_0 bt199.1).f1) != a2),anyI 10] : List AnyV))).bind fun t205 => (some t205)) else (none)) else (none)) else (some 5))
theorem impl_Store_versionCode.mono : ∀ a0 a1 a2 a3 k,LeO (impl_Store_versionCode.f k a0 a1 a2 a3) (impl_Store_versionCode.f (k + 1) a0 a1 a2 a3) := by
 intro a0 a1 a2 a3 k
 unfold impl_Store_versionCode.f
 repeat' first
   | (with_reducible exact impl_first.mono _ _)
   | (with_reducible exact LeO.refl _)
   | (with_reducible exact LeO.none _)
   | (with_reducible refine LeO.ite ?_ ?_)
   | (with_reducible refine LeO.bind ?_ (fun _ => ?_))
   | exact impl_first.mono _ _
   | exact LeO.none _
   | refine LeO.ite ?_ ?_
   | refine LeO.bind ?_ (fun _ => ?_)
set_option maxHeartbeats 8000000 in
set_option maxRecDepth 100000 in
theorem impl_Store_versionCode.calls (k : Nat) (A0_0 : Option Addr) (c0_0 : Nat) (l0_0 : List (S71)) (a0_1 : Int) (a1 : ByteArray) (a2 : Int) (r : Int) (w : World) (hr0_0 : Kd.C k71 w A0_0 l0_0.length l0_0) (hc0_0 : l0_0.length ≤ c0_0) (h : impl_Store_versionCode.f k l0_0 a0_1 a1 a2 = some r) :
  Calls Try.prog 31 #[.agg #[.slice A0_0 l0_0.length c0_0,.int .i64 a0_1],.string a1,.int .i64 a2] w fun e w' => e = .returned (.int .i64 r) ∧ Below w.heap.size w w' := by
 have hu28 := Try.underlying28
 have hua20 := Try.underlying20
 have HR0_0 := Aside0.mk hr0_0
 have HC0_0 := Aside0.mk hc0_0
 clear hr0_0 hc0_0
 have HB := Aside0.mk (Below.refl w.heap.size w)
 have H : ((impl_Store_find.f l0_0 a0_1 a1).bind fun bt199 => (if bt199.2 = true then (if 0 ≤ bt199.1 then (if bt199.1 < (l0_0.length : Int) then ((impl_first.f k (([anyB (((rd_T71 l0_0 bt199.1).f1) != a2),anyI 10] : List AnyV))).bind fun t205 => (some t205)) else (none)) else (none)) else (some 5))) = some r := h
 clear h
 replace H := Option.bind_eq_some_iff.mp H
 obtain ⟨⟨t199,t200⟩,A40,H⟩ := H
 try dsimp only at H
 have A4 := Aside0.mk A40
 clear A40
 by_cases c5 : t200 = true
 ·subst c5
  rw [if_pos rfl] at H
  by_cases c6 : 0 ≤ t199
  ·rw [if_pos c6] at H
   have c6b0 : decide (0 ≤ t199) = true := decide_eq_true c6
   clear c6
   by_cases c7 : t199 < (l0_0.length : Int)
   ·rw [if_pos c7] at H
    have c7b0 : decide (t199 < (l0_0.length : Int)) = true := decide_eq_true c7
    clear c7
    obtain ⟨y202,hy202⟩ : ∃ y_ : List AnyV,y_ = (([anyB (((rd_T71 l0_0 t199).f1) != a2),anyI 10] : List AnyV)) := ⟨_,rfl⟩
    replace H : ((impl_first.f k y202).bind fun t205 => (some t205)) = some r := by first | (rw [hy202]; with_reducible exact H) | (have H2_ := (Option.bind_some _ _).symm.trans H; rw [hy202]; with_reducible exact H2_) | (have H2_ := (Option.bind_some _ _).symm.trans H; with_reducible exact H2_) | with_reducible exact H | (rw [hy202]; exact H) | exact H
    have Ny202 := Aside0.mk hy202
    clear hy202
    replace H := Option.bind_eq_some_iff.mp H
    obtain ⟨t205,A80,H⟩ := H
    try dsimp only at H
    have A8 := Aside0.mk A80
    clear A80
    obtain rfl := Option.some.inj H
    go_enter Try.func31,Try.ntmps31
    go_wp2_with (first | ((with_reducible refine gate_dst (N:=3) rfl ?_); refine box_event ?hg (N:=3) ?hd (cs := #[.slice A0_0 l0_0.length c0_0,.int .i64 a0_1]) (t:=28) ?hr ?_; (case hd => rfl); (case hg => rfl); (case hr => first | (go_simp; done) | (go_simp; rfl)); intro gb198 hg w9 hbox hb; have n0_ := Aside0.mk (below_step bA hb); have n1_ := Aside0.mk (hbox); have n2_ := Aside0.mk ((by rw [hg]; exact (below_size bA) : w.heap.size ≤ gb198)); have n3_ := Aside0.mk ((by rw [hg]; exact (below_size bA) : w.heap.size ≤ gb198)); clear HB; have HB := n0_; have BK198 := n1_; have GW198 := n2_; have GE198 := n3_; clear n0_ n1_ n2_ n3_; clear hb hbox hg; have hcz10_0 : w9.cell? ⟨gb198,0,none⟩ = some (.slice A0_0 l0_0.length c0_0) := (blk_cell BK198.out 0).trans rfl; have hcz10_1 : w9.cell? ⟨gb198,1,none⟩ = some (.int .i64 a0_1) := (blk_cell BK198.out 1).trans rfl; have hfz10_0 := blk_frozen BK198.out 0; have hfz10_1 := blk_frozen BK198.out 1) | ((with_reducible refine gate_callee (f:=58) rfl ?_); refine goesL_ (some 12) rfl rfl Try.func58 (by kernel_rfl) rfl #[.agg #[.slice A0_0 l0_0.length c0_0,.int .i64 a0_1],.string a1] rfl mA ?_; (with_reducible refine (impl_Store_find.calls _ _ l0_0 a0_1 a1 t199 true _ ?side1 ?side2 A4.out).mono ?_); (case side1 => repeat (first | exact (Kd.C_below HR0_0.out HB.out) | (with_reducible refine Kd.C_alloc ?_ _) | (with_reducible refine Kd.C_drewN ?_ _) | (with_reducible refine Kd.C_drew ?_))); (case side2 => exact HC0_0.out); rintro e w11 ⟨rfl,hb⟩; refine ⟨_,rfl,?_⟩; have n0_ := Aside0.mk (blk_below (g:=gb198) (o:=.cells #[.slice A0_0 l0_0.length c0_0,.int .i64 a0_1] 28 (0,0)) (kA BK198.out) hb); have n1_ := Aside0.mk (below_step bA hb); clear BK198; clear HB; have BK198 := n0_; have HB := n1_; clear n0_ n1_; (try clear hb); (try clear hb2); (try clear hk); (try clear hi); have hcz12_0 : w11.cell? ⟨gb198,0,none⟩ = some (.slice A0_0 l0_0.length c0_0) := (blk_cell BK198.out 0).trans rfl; have hcz12_1 : w11.cell? ⟨gb198,1,none⟩ = some (.int .i64 a0_1) := (blk_cell BK198.out 1).trans rfl; have hfz12_0 := blk_frozen BK198.out 0; have hfz12_1 := blk_frozen BK198.out 1; have p201 : 0 ≤ (t199 : Int) := of_decide_eq_true (by first | (with_reducible assumption) | assumption); have q201 : t199 < (l0_0.length : Int) := of_decide_eq_true (by first | (with_reducible assumption) | assumption); obtain ⟨ad201,e201,hx201_0,hx201_1,hx201_2⟩ := at_T71 HR0_0.out t199 p201 q201; cases e201; replace hx201_0 := (HB.out.cell (World.block_lt_of_cell? w _ hx201_0)).trans hx201_0; replace hx201_1 := (HB.out.cell (World.block_lt_of_cell? w _ hx201_1)).trans hx201_1; replace hx201_2 := (HB.out.cell (World.block_lt_of_cell? w _ hx201_2)).trans hx201_2; replace p201 := eq_true p201; replace q201 := eq_true q201) | ((with_reducible refine gate_dst (N:=27) rfl ?_); refine Kd.R_lit kAny _ 20 ?hg (N:=27) ?hd (xs := ([anyB (((rd_T71 l0_0 t199).f1) != a2),anyI 10] : List AnyV)) (inner := [.iface 4 (.bool (((rd_T71 l0_0 t199).f1) != a2)),.iface 3 (.int .i64 10)]) (ok := fun _ => True) (okp := fun _ => True) ?hr ?hp (fun _ hk => hk) trivial (Below.refl _ _) (Nat.le_refl _) (by simp) ?_; (case hd => rfl); (case hg => rfl); (case hr => first | (go_simp; done) | (go_simp; rfl)); (case hp => exact (Reps.one (show Kd.M kAny _ _ _ (anyB (((rd_T71 l0_0 t199).f1) != a2)) [.iface 4 (.bool (((rd_T71 l0_0 t199).f1) != a2))] from rfl) (Reps.one (show Kd.M kAny _ _ _ (anyI 10) [.iface 3 (.int .i64 10)] from rfl) (Reps.none _ _)))); intro v203 w13 ho14 hb hg_ hnew_; clear hg_ hnew_; (first | rw [← Ny202.out] at ho14 | (simp only [Int.reduceToNat] at ho14; rw [← Ny202.out] at ho14)); have n0_ := Aside0.mk (Kd.R_lower ho14 (below_size bA)); have n1_ := Aside0.mk (blk_below (g:=gb198) (o:=.cells #[.slice (some ad201) l0_0.length c0_0,.int .i64 a0_1] 28 (0,0)) (kA BK198.out) hb); have n2_ := Aside0.mk (below_step bA hb); clear BK198; clear HB; have HO204 := n0_; have BK198 := n1_; have HB := n2_; clear n0_ n1_ n2_; clear hb ho14; obtain ⟨Ao15,co15,eo15⟩ := Kd.R_slice HO204.out; subst eo15) | ((with_reducible refine gate_callee (f:=28) rfl ?_); refine goesL_ (some 28) rfl rfl Try.func28 (by kernel_rfl) rfl #[.slice Ao15 y202.length co15] rfl mA ?_; (with_reducible refine (impl_first.calls k _ _ y202 t205 _ ?side1 ?side2 A8.out).mono ?_); (case side1 => repeat (first | exact (Kd.R_reads' HO204.out).2.2 | (with_reducible refine Kd.C_alloc ?_ _) | (with_reducible refine Kd.C_drewN ?_ _) | (with_reducible refine Kd.C_drew ?_))); (case side2 => exact (Kd.R_reads' HO204.out).2.1); rintro e w' ⟨rfl,⟨nd,rfl⟩⟩; refine ⟨_,rfl,?_⟩))
    go_ret
    exact ⟨by first | rfl | (simp [errW_none,errW_some] <;> rfl) | (simp [*,errW_none,errW_some] <;> rfl),bA⟩
   ·rw [if_neg c7] at H
    exact absurd H (by simp)
  ·rw [if_neg c6] at H
   exact absurd H (by simp)
 ·replace c5 := Bool.eq_false_iff.mpr c5
  subst c5
  rw [if_neg (show ¬ (false = true) by decide)] at H
  obtain rfl := Option.some.inj H
  go_enter Try.func31,Try.ntmps31
  go_wp2_with (first | ((with_reducible refine gate_dst (N:=3) rfl ?_); refine box_event ?hg (N:=3) ?hd (cs := #[.slice A0_0 l0_0.length c0_0,.int .i64 a0_1]) (t:=28) ?hr ?_; (case hd => rfl); (case hg => rfl); (case hr => first | (go_simp; done) | (go_simp; rfl)); intro gb198 hg w16 hbox hb; have n0_ := Aside0.mk (below_step bA hb); have n1_ := Aside0.mk (hbox); have n2_ := Aside0.mk ((by rw [hg]; exact (below_size bA) : w.heap.size ≤ gb198)); have n3_ := Aside0.mk ((by rw [hg]; exact (below_size bA) : w.heap.size ≤ gb198)); clear HB; have HB := n0_; have BK198 := n1_; have GW198 := n2_; have GE198 := n3_; clear n0_ n1_ n2_ n3_; clear hb hbox hg; have hcz17_0 : w16.cell? ⟨gb198,0,none⟩ = some (.slice A0_0 l0_0.length c0_0) := (blk_cell BK198.out 0).trans rfl; have hcz17_1 : w16.cell? ⟨gb198,1,none⟩ = some (.int .i64 a0_1) := (blk_cell BK198.out 1).trans rfl; have hfz17_0 := blk_frozen BK198.out 0; have hfz17_1 := blk_frozen BK198.out 1) | ((with_reducible refine gate_callee (f:=58) rfl ?_); refine goesL_ (some 12) rfl rfl Try.func58 (by kernel_rfl) rfl #[.agg #[.slice A0_0 l0_0.length c0_0,.int .i64 a0_1],.string a1] rfl mA ?_; (with_reducible refine (impl_Store_find.calls _ _ l0_0 a0_1 a1 t199 false _ ?side1 ?side2 A4.out).mono ?_); (case side1 => repeat (first | exact (Kd.C_below HR0_0.out HB.out) | (with_reducible refine Kd.C_alloc ?_ _) | (with_reducible refine Kd.C_drewN ?_ _) | (with_reducible refine Kd.C_drew ?_))); (case side2 => exact HC0_0.out); rintro e w18 ⟨rfl,hb⟩; refine ⟨_,rfl,?_⟩; have n0_ := Aside0.mk (blk_below (g:=gb198) (o:=.cells #[.slice A0_0 l0_0.length c0_0,.int .i64 a0_1] 28 (0,0)) (kA BK198.out) hb); have n1_ := Aside0.mk (below_step bA hb); clear BK198; clear HB; have BK198 := n0_; have HB := n1_; clear n0_ n1_; (try clear hb); (try clear hb2); (try clear hk); (try clear hi)))
  go_ret
  exact ⟨by first | rfl | (simp [errW_none,errW_some] <;> rfl) | (simp [*,errW_none,errW_some] <;> rfl),bA⟩

/-! ### impl_Object: function 59 -/
def impl_Object.f (l0 : List (S71)) : Option ((List (S71))) := (some (([] : List (S71)) : List (S71))).bind fun y206 => (if y206.length + l0.length < 3518437208883 then (some (y206 ++ l0)) else (none))
theorem nil_in59 (w : World) (d : Nat) (t e : TypeId) (P : Program) (a : Option Addr) (l c : Nat) (h : P.underlying t = some (.slice e)) : (Op.equalIn (d + 1) t (.slice a l c) (.slice none 0 0)).run P w = .ok a.isNone w := by
 cases a <;> simp [Op.equalIn,run_underlying h]
theorem nil_test59 (t e : TypeId) (P : Program) (a : Option Addr) (l c : Nat) (h : P.underlying t = some (.slice e)) (w : World) : (binOp .eql t (.slice a l c) (.slice none 0 0)).run P w = .ok (.bool a.isNone) w := by
 simp only [binOp]
 simp [Op.equal,Op.maxDepth,nil_in59 w 9999 t e P a l c h]
set_option maxHeartbeats 8000000 in
set_option maxRecDepth 100000 in
theorem impl_Object.calls (A0 : Option Addr) (c0 : Nat) (l0 : List (S71)) (r : List (S71)) (w : World) (hr0 : Kd.C k71 w A0 l0.length l0) (hc0 : l0.length ≤ c0) (h : impl_Object.f l0 = some r) :
  Calls Try.prog 59 #[.slice A0 l0.length c0] w fun e w' => ∃ v0_ : Value,e = .returned (v0_) ∧ Kd.R k71 71 w' w.heap.size (fun _ => True) v0_ r ∧ Below w.heap.size w w' := by
 cases A0 with
 | none =>
  obtain rfl : l0 = [] := by
   cases l0 with
   | nil => rfl
   | cons a_ l_ => obtain ⟨ad_,e_,_⟩ := hr0.2.2 (Nat.succ_pos _); cases e_
  obtain rfl : ([] : List (S71)) = r := by simpa [impl_Object.f] using h
  have HB := Aside0.mk (Below.refl w.heap.size w)
  have hnil_ := fun W : World => nil_test59 26 71 Try.prog none 0 c0 Try.underlying26 W
  go_enter Try.func59,Try.ntmps59
  go_wp2_with (first | (simp only [hnil_,Option.isNone_none]; simp only [Result.andThen]))
  go_ret
  exact ⟨_,rfl,by first | exact Kd.R_nil _ _ _ _ _ | exact Kd.N_nil _ _ _ _ _,HB.out⟩
 | some A0 =>
  have hnil_ := fun W : World => nil_test59 26 71 Try.prog (some A0) l0.length c0 Try.underlying26 W
  have HR0 := Aside0.mk hr0
  have HC0 := Aside0.mk hc0
  clear hr0 hc0
  have HB := Aside0.mk (Below.refl w.heap.size w)
  have H : ((some (([] : List (S71)) : List (S71))).bind fun y206 => (if y206.length + l0.length < 3518437208883 then (some (y206 ++ l0)) else (none))) = some r := h
  clear h
  obtain ⟨y206,hy206⟩ : ∃ y_ : List (S71),y_ = (([] : List (S71))) := ⟨_,rfl⟩
  replace H : (if y206.length + l0.length < 3518437208883 then (some (y206 ++ l0)) else (none)) = some r := by first | (rw [hy206]; with_reducible exact H) | (have H2_ := (Option.bind_some _ _).symm.trans H; rw [hy206]; with_reducible exact H2_) | (have H2_ := (Option.bind_some _ _).symm.trans H; with_reducible exact H2_) | with_reducible exact H | (rw [hy206]; exact H) | exact H
  have Ny206 := Aside0.mk hy206
  clear hy206
  by_cases c2 : y206.length + l0.length < 3518437208883
  ·rw [if_pos c2] at H
   have LMc2 := Aside0.mk c2
   clear c2
   obtain ⟨y209,hy209⟩ : ∃ y_ : List (S71),y_ = (y206 ++ l0) := ⟨_,rfl⟩
   replace H : (some y209) = some r := by first | (rw [hy209]; with_reducible exact H) | (have H2_ := (Option.bind_some _ _).symm.trans H; rw [hy209]; with_reducible exact H2_) | (have H2_ := (Option.bind_some _ _).symm.trans H; with_reducible exact H2_) | with_reducible exact H | (rw [hy209]; exact H) | exact H
   have Ny209 := Aside0.mk hy209
   clear hy209
   obtain rfl := Option.some.inj H
   go_enter Try.func59,Try.ntmps59
   go_wp2_with (first | (simp only [hnil_,Option.isNone_some]; simp only [Result.andThen]) | ((with_reducible refine gate_dst (N:=5) rfl ?_); refine Kd.R_lit k71 _ 71 ?hg (N:=5) ?hd (xs := ([] : List (S71))) (inner := []) (ok := fun _ => True) (okp := fun _ => True) ?hr ?hp (fun _ hk => hk) trivial (Below.refl _ _) (Nat.le_refl _) (by simp) ?_; (case hd => rfl); (case hg => rfl); (case hr => first | (go_simp; done) | (go_simp; rfl)); (case hp => exact (Reps.none _ _)); intro v207 w3 ho4 hb hg_ hnew_; clear hg_ hnew_; (first | rw [← Ny206.out] at ho4 | (simp only [Int.reduceToNat] at ho4; rw [← Ny206.out] at ho4)); have n0_ := Aside0.mk (Kd.R_lower ho4 (below_size bA)); have n1_ := Aside0.mk (below_step bA hb); clear HB; have HO208 := n0_; have HB := n1_; clear n0_ n1_; clear hb ho4) | ((with_reducible refine gate_builtin (b:=.append) (xs := #[.tmp 5,.tmp 6]) rfl ?_); at_builtin; refine Kd.R_append_rows k71 (w0 := w) w.heap.size rfl (.tmp 5) (.tmp 6) 26 71 (.agg #[(.string ⟨#[]⟩),(.int .i64 0),(.string ⟨#[]⟩)]) 40 rfl Try.underlying26 info71 rfl (by decide) (by omega) v207 y206 l0 _ _ _ (fun _ => True) (fun _ => False) rfl rfl ?aO ?aR (fun _ _ h => h) (fun _ h => h.elim) ?aF ?aB ?aS ?aL ?_; (case aR => repeat (first | exact (Kd.C_below HR0.out HB.out) | (with_reducible refine Kd.C_alloc ?_ _) | (with_reducible refine Kd.C_drewN ?_ _) | (with_reducible refine Kd.C_drew ?_))); (case aB => exact bA); (case aF => exact (fun _ _ => trivial)); (case aO => exact (rA HO208.out)); (case aS => exact (below_size bA)); (case aL => have := LMc2.out; omega); intro v210 w5 ho hb hg hat; rw [← Ny209.out] at ho; have n0_ := Aside0.mk (hb); have n1_ := Aside0.mk (ho); clear HB; clear HO208; have HB := n0_; have HO211 := n1_; clear n0_ n1_; clear ho hb hg hat))
   go_ret
   exact ⟨_,by first | rfl | (simp [errW_none,errW_some] <;> rfl) | (simp [*,errW_none,errW_some] <;> rfl),rA HO211.out,bA⟩
  ·rw [if_neg c2] at H
   exact absurd H (by simp)


/-! ### impl_Store_copied: function 32 -/
def impl_Store_copied.f (l0_0 : List (S71)) (a0_1 : Int) : Option ((List (S71)) × Int) := (impl_Object.f l0_0).bind fun t214 => (some (t214,a0_1))
set_option maxHeartbeats 8000000 in
set_option maxRecDepth 100000 in
theorem impl_Store_copied.calls (A0_0 : Option Addr) (c0_0 : Nat) (l0_0 : List (S71)) (a0_1 : Int) (r1 : List (S71)) (r2 : Int) (w : World) (hr0_0 : Kd.C k71 w A0_0 l0_0.length l0_0) (hc0_0 : l0_0.length ≤ c0_0) (h : impl_Store_copied.f l0_0 a0_1 = some (r1,r2)) :
  Calls Try.prog 32 #[.agg #[.slice A0_0 l0_0.length c0_0,.int .i64 a0_1]] w fun e w' => ∃ v0_ : Value,e = .returned (.agg #[v0_,.int .i64 r2]) ∧ Kd.R k71 71 w' w.heap.size (fun _ => True) v0_ r1 ∧ Below w.heap.size w w' := by
 have hu28 := Try.underlying28
 have HR0_0 := Aside0.mk hr0_0
 have HC0_0 := Aside0.mk hc0_0
 clear hr0_0 hc0_0
 have HB := Aside0.mk (Below.refl w.heap.size w)
 have H : ((impl_Object.f l0_0).bind fun t214 => (some (t214,a0_1))) = some (r1,r2) := h
 clear h
 replace H := Option.bind_eq_some_iff.mp H
 obtain ⟨t214,A20,H⟩ := H
 try dsimp only at H
 have A2 := Aside0.mk A20
 clear A20
 simp only [Option.some.injEq,Prod.mk.injEq] at H
 obtain ⟨rfl,rfl⟩ := H
 go_enter Try.func32,Try.ntmps32
 try go_wp2_with (first | ((with_reducible refine gate_dst (N:=1) rfl ?_); refine box_event ?hg (N:=1) ?hd (cs := #[.slice A0_0 l0_0.length c0_0,.int .i64 a0_1]) (t:=28) ?hr ?_; (case hd => rfl); (case hg => rfl); (case hr => first | (go_simp; done) | (go_simp; rfl)); intro gb212 hg w3 hbox hb; have n0_ := Aside0.mk (below_step bA hb); have n1_ := Aside0.mk (hbox); have n2_ := Aside0.mk ((by rw [hg]; exact (below_size bA) : w.heap.size ≤ gb212)); have n3_ := Aside0.mk ((by rw [hg]; exact (below_size bA) : w.heap.size ≤ gb212)); clear HB; have HB := n0_; have BK212 := n1_; have GW212 := n2_; have GE212 := n3_; clear n0_ n1_ n2_ n3_; clear hb hbox hg) | ((with_reducible refine gate_dst (N:=2) rfl ?_); refine box_event ?hg (N:=2) ?hd (cs := #[.slice none 0 0,.int .i64 0]) (t:=28) ?hr ?_; (case hd => rfl); (case hg => rfl); (case hr => first | (go_simp; done) | (go_simp; rfl)); intro gb213 hg w4 hbox hb; have n0_ := Aside0.mk (blk_below (g:=gb212) (o:=.cells #[.slice A0_0 l0_0.length c0_0,.int .i64 a0_1] 28 (0,0)) (kA BK212.out) hb); have n1_ := Aside0.mk (below_step bA hb); have n2_ := Aside0.mk (hbox); have n3_ := Aside0.mk ((by rw [hg]; exact (below_size bA) : w.heap.size ≤ gb213)); have n4_ := Aside0.mk ((by rw [hg]; exact (below_size bA) : w.heap.size ≤ gb213)); have n5_ := Aside0.mk ((by rw [hg]; exact Nat.ne_of_lt (blk_lt (g:=gb212) (o:=.cells #[.slice A0_0 l0_0.length c0_0,.int .i64 a0_1] 28 (0,0)) (kA BK212.out)) : gb212 ≠ gb213)); have n6_ := Aside0.mk ((by rw [hg]; exact Nat.ne_of_gt (blk_lt (g:=gb212) (o:=.cells #[.slice A0_0 l0_0.length c0_0,.int .i64 a0_1] 28 (0,0)) (kA BK212.out)) : gb213 ≠ gb212)); clear BK212; clear HB; have BK212 := n0_; have HB := n1_; have BK213 := n2_; have GW213 := n3_; have GE213 := n4_; have NB212_213 := n5_; have NB213_212 := n6_; clear n0_ n1_ n2_ n3_ n4_ n5_ n6_; clear hb hbox hg))
 have n0_ := Aside0.mk (blk_drew BK212.out)
 have n1_ := Aside0.mk (blk_drew BK213.out)
 have n2_ := Aside0.mk (below_drew1 HB.out)
 clear BK212
 clear BK213
 clear HB
 have BK212 := n0_
 have BK213 := n1_
 have HB := n2_
 clear n0_ n1_ n2_
 refine start_ (n:=7) (S:=fun w' => w'.cell? ⟨gb212,0,none⟩ = some (.slice A0_0 l0_0.length c0_0) ∧ w'.cell? ⟨gb212,1,none⟩ = some (.int .i64 a0_1)) (ds := []) #[false,false,false,false,false,false,false] (by kernel_rfl) rfl rfl ⟨(blk_cell BK212.out 0).trans rfl,(blk_cell BK212.out 1).trans rfl⟩ (fun hHeld => ?_)
 generalize w4.drew = w5 at BK212 BK213 HB hHeld ⊢
 refine pure_ (i:=0) (N:=some 3) (v:=?_) (a':=?_) #[true,false,false,false,false,false,false] rfl rfl (by kernel_rfl) (fun _ _ _ h => h) (Or.inl ⟨by rfl,?_⟩) ?_ ?_
 rotate_left
 ·intro w'
  go_simp
  with_reducible rfl
 rotate_left
 ·simp only [Act.put,setIfInBounds_toArray,set_cons_zero,set_cons_succ,i64_w,i32_w]
  rfl
 refine pure_ (i:=3) (N:=some 6) (v:=?_) (a':=?_) #[true,false,false,true,false,false,false] rfl rfl (by kernel_rfl) (fun _ _ _ h => h) (Or.inl ⟨by rfl,?_⟩) ?_ ?_
 rotate_left
 ·intro w'
  go_simp
  with_reducible rfl
 rotate_left
 ·simp only [Act.put,setIfInBounds_toArray,set_cons_zero,set_cons_succ,i64_w,i32_w]
  rfl
 refine take_ (i:=1) (N:=some 4) (v:=?_) (a':=?_) #[true,true,false,true,false,false,false] rfl rfl (by kernel_rfl) (fun _ _ _ h => h) (Or.inl ⟨by rfl,?_⟩) hHeld ?_ ?_
 rotate_left
 ·rintro w' ⟨s0,s1⟩
  go_simp
  with_reducible rfl
 rotate_left
 ·simp only [Act.put,setIfInBounds_toArray,set_cons_zero,set_cons_succ,i64_w,i32_w]
  rfl
 refine take_ (i:=4) (N:=some 7) (v:=?_) (a':=?_) #[true,true,false,true,true,false,false] rfl rfl (by kernel_rfl) (fun _ _ _ h => h) (Or.inl ⟨by rfl,?_⟩) hHeld ?_ ?_
 rotate_left
 ·rintro w' ⟨s0,s1⟩
  go_simp
  with_reducible rfl
 rotate_left
 ·simp only [Act.put,setIfInBounds_toArray,set_cons_zero,set_cons_succ,i64_w,i32_w]
  rfl
 refine one_ (i:=2) (N:=some 5) #[true,true,true,true,true,false,false] rfl rfl (by kernel_rfl) (by decide) (fun K hK => ?_)
 refine goes_ Try.func59 (by kernel_rfl) rfl #[.slice A0_0 l0_0.length c0_0] (by rfl) rfl rfl mA ?_
 with_reducible refine (impl_Object.calls _ _ l0_0 t214 _ ?side1 ?side2 A2.out).mono ?_
 (case side1 => repeat (first | exact (Kd.C_below HR0_0.out HB.out) | (with_reducible refine Kd.C_alloc ?_ _) | (with_reducible refine Kd.C_drewN ?_ _) | (with_reducible refine Kd.C_drew ?_)))
 (case side2 => exact HC0_0.out)
 rintro e w6 ⟨v215,rfl,ho0,hb⟩
 refine ⟨_,rfl,?_⟩
 have n0_ := Aside0.mk (Kd.R_lower ho0 (below_size bA))
 have n1_ := Aside0.mk (blk_below (g:=gb212) (o:=.cells #[.slice A0_0 l0_0.length c0_0,.int .i64 a0_1] 28 (0,0)) (kA BK212.out) hb)
 have n2_ := Aside0.mk (blk_below (g:=gb213) (o:=.cells #[.slice none 0 0,.int .i64 0] 28 (0,0)) (kA BK213.out) hb)
 have n3_ := Aside0.mk (below_step bA hb)
 clear BK212
 clear BK213
 clear HB
 have HO216 := n0_
 have BK212 := n1_
 have BK213 := n2_
 have HB := n3_
 clear n0_ n1_ n2_ n3_
 (try clear hb)
 (try clear hb2)
 (try clear hk)
 (try clear hi)
 (try clear ho0)
 obtain ⟨Ao7,co7,eo7⟩ := Kd.R_slice HO216.out
 (first | subst eo7 | (injection eo7 with f1_ f2_ f3_; have f4_ := f1_.symm; have f5_ := f3_.symm; clear f1_ f2_ f3_; subst f4_; subst f5_))
 refine hK.out _ _ ⟨(blk_cell BK212.out 0).trans rfl,(blk_cell BK212.out 1).trans rfl⟩ (fun hHeld => ?_)
 clear hK K
 refine norm_ (a':=?_) ?_ ?_
 rotate_left
 ·show Act.put _ (some 5) _ = _
  simp only [Act.put,setIfInBounds_toArray,set_cons_zero,set_cons_succ,i64_w,i32_w]
  rfl
 refine pure_ (i:=5) (N:=some 8) (v:=?_) (a':=?_) #[true,true,true,true,true,true,false] rfl rfl (by kernel_rfl) (fun _ _ _ h => h) (Or.inl ⟨by rfl,?_⟩) ?_ ?_
 rotate_left
 ·intro w'
  go_simp
  with_reducible rfl
 rotate_left
 ·simp only [Act.put,setIfInBounds_toArray,set_cons_zero,set_cons_succ,i64_w,i32_w]
  rfl
 refine one_ (i:=6) (N:=none) #[true,true,true,true,true,true,true] rfl rfl (by kernel_rfl) (by decide) (fun K hK => ?_)
 have hs8 : w6.cell? ⟨gb213,0,none⟩ = some (.slice none 0 0) := (blk_cell BK213.out 0).trans rfl
 have hfs8 := blk_frozen BK213.out 0
 have hns8_0 := NB212_213.out
 have hms8_0 := NB213_212.out
 have hs9 : w6.cell? ⟨gb213,1,none⟩ = some (.int .i64 0) := (blk_cell BK213.out 1).trans rfl
 have hfs9 := blk_frozen BK213.out 1
 have hns9_0 := NB212_213.out
 have hms9_0 := NB213_212.out
 refine skip_ (w1 := ?_) (by rfl) rfl ?_ ?_
 rotate_left
 ·go_simp
  rfl
 refine hK.out _ _ ⟨((cell_far (p:=⟨gb213,_,none⟩) NB212_213.out _).trans (((cell_far (p:=⟨gb213,_,none⟩) NB212_213.out _).trans (hHeld.1)))),((cell_far (p:=⟨gb213,_,none⟩) NB212_213.out _).trans (((cell_far (p:=⟨gb213,_,none⟩) NB212_213.out _).trans (hHeld.2))))⟩ (fun hHeld => ?_)
 clear hK K
 refine done_ (by kernel_rfl) ?_
 try go_wp2
 refine bodyPost_ret (results_cell_row rfl _ _ gb213 28 #[.slice Ao7 t214.length co7,.int .i64 a0_1] (0,0) _ rfl (by (with_reducible repeat (first | refine blk_drewN ?_ _ | refine blk_drew ?_ | refine blk_alloc ?_ _)); refine blk_put (cs := #[.slice Ao7 t214.length co7,.int .i64 0]) ?_ 1 _ rfl; (with_reducible repeat (first | refine blk_drewN ?_ _ | refine blk_drew ?_ | refine blk_alloc ?_ _)); refine blk_put (cs := #[.slice none 0 0,.int .i64 0]) ?_ 0 _ rfl; (with_reducible repeat (first | refine blk_drewN ?_ _ | refine blk_drew ?_ | refine blk_alloc ?_ _)); exact BK213.out) Try.underlying28 rfl (by kernel_rfl)) rfl ?_
 exact ⟨_,by first | rfl | (simp [errW_none,errW_some] <;> rfl) | (simp [*,errW_none,errW_some] <;> rfl),by (with_reducible repeat (first | apply Kd.R_alloc | apply Kd.R_drewN | apply Kd.R_drew)); exact Kd.R_mono (Kd.R_far (p:=⟨gb213,1,none⟩) (Kd.R_far (p:=⟨gb213,0,none⟩) (Kd.R_types HO216.out BK213.out (by decide)) (fun _ hk => hk.2) (.slice Ao7 t214.length co7)) (fun _ hk => hk.2) (.int .i64 a0_1)) (fun _ hk => trivial),bA⟩

/-! ### impl_Store_without: function 33 (by hand) -/
def idxQ (p : Nat → Bool) : Nat → Nat → Int
 | 0,_ => -1
 | d + 1,i => if p i = true then (i : Int) else idxQ p d (i + 1)
theorem idxQ_hit (c : Nat) (p : Nat → Bool) (hp : ∀ j,p j = decide (j = c)) : ∀ (d i : Nat),i ≤ c → c < i + d → idxQ p d i = (c : Int)
 | 0,i,h1,h2 => by omega
 | d + 1,i,h1,h2 => by
  unfold idxQ
  rw [hp i]
  by_cases h : i = c
  ·subst h; simp
  ·rw [decide_eq_false h]
   exact idxQ_hit c p hp d (i + 1) (by omega) (by omega)
def shiftL (l : List S71) (c : Nat) : Nat → List S71
 | 0 => l
 | m + 1 => (shiftL l c m).set (c + m) (l.getD (c + m + 1) z71)
theorem shiftL_len (l : List S71) (c : Nat) : ∀ m,(shiftL l c m).length = l.length
 | 0 => rfl
 | m + 1 => by unfold shiftL; rw [List.length_set,shiftL_len l c m]
theorem shiftL_at (l : List S71) (c : Nat) : ∀ (m t : Nat),c + m < l.length → (shiftL l c m)[t]? = if t < c then l[t]? else if t < c + m then l[t + 1]? else l[t]?
 | 0,t,_ => by
  unfold shiftL
  by_cases h : t < c
  ·rw [if_pos h]
  ·rw [if_neg h,if_neg (by omega)]
 | m + 1,t,hm => by
  have ih := shiftL_at l c m t (by omega)
  unfold shiftL
  rw [List.getElem?_set,ih]
  by_cases h : c + m = t
  ·subst h
   rw [if_pos rfl,shiftL_len,if_pos (show c + m < l.length by omega),if_neg (show ¬ c + m < c by omega),if_pos (show c + m < c + (m + 1) by omega),List.getD_eq_getElem?_getD,List.getElem?_eq_getElem (show c + m + 1 < l.length by omega)]
   rfl
  ·rw [if_neg h]
   by_cases h1 : t < c
   ·rw [if_pos h1,if_pos h1]
   ·rw [if_neg h1,if_neg h1]
    by_cases h2 : t < c + m
    ·rw [if_pos h2,if_pos (by omega)]
    ·rw [if_neg h2,if_neg (by omega)]
theorem shiftL_hi (l : List S71) (c m t : Nat) (hm : c + m < l.length) (h : c + m ≤ t) : (shiftL l c m).getD t z71 = l.getD t z71 := by
 rw [List.getD_eq_getElem?_getD,List.getD_eq_getElem?_getD,shiftL_at l c m t hm,if_neg (by omega),if_neg (by omega)]
theorem shiftL_end (l : List S71) (c m : Nat) (hm : c + m + 1 = l.length) : (shiftL l c m).take (l.length - 1) = l.take c ++ l.drop (c + 1) := by
 apply List.ext_getElem?
 intro t
 rw [List.getElem?_take,shiftL_at l c m t (by omega),List.getElem?_append,List.length_take]
 by_cases h0 : t < l.length - 1
 ·rw [if_pos h0]
  by_cases h1 : t < c
  ·rw [if_pos h1,if_pos (by omega),List.getElem?_take,if_pos h1]
  ·rw [if_neg h1,if_pos (by omega),if_neg (by omega),List.getElem?_drop]
   congr 1
   omega
 ·rw [if_neg h0,if_neg (by omega),List.getElem?_drop,List.getElem?_eq_none (by omega)]
set_option maxHeartbeats 2000000 in
set_option maxRecDepth 100000 in
theorem wo_one (x0 : ByteArray) (x1 : Int) (x2 : ByteArray) (key : ByteArray) (B : Nat) (W : World) (hkey : W.heap[B]? = some (.cells #[.string key] 9 (0,0))) :
  Calls Try.prog 61 (#[.agg #[.string x0,.int .i64 x1,.string x2]] ++ #[.pointer (some ⟨B,0,none⟩)]) W fun e w' => e = .returned (.bool (x0.toList == key.toList)) ∧ Below W.heap.size W w' := by
 have HB := Aside0.mk (Below.refl W.heap.size W)
 have hc : W.cell? ⟨B,0,none⟩ = some (.string key) := (blk_cell hkey 0).trans rfl
 clear hkey
 show Calls Try.prog 61 #[.agg #[.string x0,.int .i64 x1,.string x2],.pointer (some ⟨B,0,none⟩)] W _
 go_enter Try.func61,Try.ntmps61
 go_wp2_with (first
  | ((with_reducible refine gate_dst (N:=2) rfl ?_); refine box_event ?hg (N:=2) ?hd (cs := #[.string x0,.int .i64 x1,.string x2]) (t:=71) ?hr ?_; (case hd => rfl); (case hg => rfl); (case hr => first | (go_simp; done) | (go_simp; rfl)); intro gb hg w7 hbox hb; have HB1 := Aside0.mk (below_step HB.out hb); replace hc := (hb.cell (World.block_lt_of_cell? _ _ hc)).trans hc; have hcE : w7.cell? ⟨gb,0,none⟩ = some (.string x0) := (blk_cell hbox 0).trans rfl; clear hb hbox hg))
 go_ret
 exact ⟨by simp,by repeat (first | (with_reducible exact HB1.out) | apply below_alloc | apply pw_below_drewN | apply below_drew1)⟩
set_option maxHeartbeats 4000000 in
set_option maxRecDepth 100000 in
theorem idx_obj (B : Nat) (key : ByteArray) (A0 : Option Addr) (c0 : Nat) (l0 : List S71) (w : World) (hr0 : Kd.C k71 w A0 l0.length l0) (hsz : l0.length ≤ 140737488351232) (hkey : w.heap[B]? = some (.cells #[.string key] 9 (0,0))) :
  Calls Try.prog 76 #[.slice A0 l0.length c0,.func (.func 61) #[] #[.pointer (some ⟨B,0,none⟩)]] w fun e w' => e = .returned (.int .i64 (idxQ (fun i => (l0.getD i z71).f0.toList == key.toList) l0.length 0)) ∧ Below w.heap.size w w' := by
 have HR := Aside0.mk hr0
 have HK := Aside0.mk hkey
 have S0 := Aside0.mk (Below.refl w.heap.size w)
 have u71 := Try.underlying71
 clear hr0 hkey
 generalize hidx : idxQ (fun i => (l0.getD i z71).f0.toList == key.toList) l0.length 0 = idx
 have ID := Aside0.mk hidx
 clear hidx
 go_enter Try.func76,Try.ntmps76
 go_wp2
 go_loopg [5,8] l0.length (fun gg _ s8 wr => ∃ i : Nat,i ≤ l0.length ∧ l0.length - i ≤ gg ∧ s8 = .int .i64 i ∧ Aside0 (Below w.heap.size w wr) ∧ Aside0 (idxQ (fun i => (l0.getD i z71).f0.toList == key.toList) (l0.length - i) i = idx))
 case atStart => exact ⟨0,Nat.zero_le _,by omega,rfl,S0,ID⟩
 case round =>
  clear S0 ID
  obtain ⟨i,hi,hg,rfl,HB,I⟩ := hrel
  by_cases hlt : i < l0.length
  ·have hltz : (i : Int) < (l0.length : Int) := by omega
   have p0 : 0 ≤ (i : Int) := by omega
   obtain ⟨ad,ea,h0,h1,h2⟩ := at_T71 HR.out (i : Int) p0 hltz
   cases ea
   replace h0 := (HB.out.cell (World.block_lt_of_cell? w _ h0)).trans h0
   replace h1 := (HB.out.cell (World.block_lt_of_cell? w _ h1)).trans h1
   replace h2 := (HB.out.cell (World.block_lt_of_cell? w _ h2)).trans h2
   rw [Int.toNat_natCast] at h0 h1 h2
   have hy : rd_T71 l0 (i : Int) = l0.getD i z71 := by unfold rd_T71; rw [Int.toNat_natCast]
   rw [hy] at h0 h1 h2
   clear hy
   have hcall := wo_one (l0.getD i z71).f0 (l0.getD i z71).f1 (l0.getD i z71).f2 key B wr ((HB.out.block B (blk_lt HK.out)).trans HK.out)
   have hstep : idxQ (fun i => (l0.getD i z71).f0.toList == key.toList) (l0.length - i) i = if ((l0.getD i z71).f0.toList == key.toList) = true then (i : Int) else idxQ (fun i => (l0.getD i z71).f0.toList == key.toList) (l0.length - (i + 1)) (i + 1) := by
    rw [show l0.length - i = (l0.length - (i + 1)) + 1 by omega]
    rfl
   have I2 := Aside0.mk (hstep.symm.trans I.out)
   clear hstep I
   generalize l0.getD i z71 = y at h0 h1 h2 hcall I2
   cases hq : (y.f0.toList == key.toList) with
   | true =>
    rw [hq] at hcall I2
    go_wp2_with (go_at_call 61; refine hcall.mono ?_; rintro e w' ⟨rfl,hb'⟩; have HB2 := Aside0.mk (HB.out.trans (hb'.mono HB.out.size) : Below w.heap.size w w'); clear hb')
    go_ret
    exact ⟨by rw [← I2.out]; rfl,HB2.out⟩
   | false =>
    rw [hq] at hcall I2
    go_wp2_with (go_at_call 61; refine hcall.mono ?_; rintro e w' ⟨rfl,hb'⟩; have HB2 := Aside0.mk (HB.out.trans (hb'.mono HB.out.size) : Below w.heap.size w w'); clear hb')
    go_roundg (l0.length - (i + 1))
    case measure => omega
    case rel => exact ⟨i + 1,by omega,Nat.le_refl _,by go_num,HB2,⟨I2.out⟩⟩
  ·obtain rfl : i = l0.length := by omega
   have hltz : ¬ (l0.length : Int) < (l0.length : Int) := by omega
   have I2 : Aside0 (idx = -1) := ⟨by rw [← I.out,Nat.sub_self]; rfl⟩
   clear I
   go_wp2
   go_ret
   exact ⟨by rw [I2.out]; rfl,HB.out⟩
/-- 'clear(s)', s a slice of one element of three cells. -/
theorem run_clear3 {P : Program} (w : World) (t e ty : TypeId) (z : Value) (a1 a2 a3 : Value) (ht : P.underlying t = some (.slice e)) (hv : ∀ w,(zeroValue e).run P w = .ok z w) (hz : z.cells = #[a1,a2,a3]) (h1 : ∀ v ∈ [a1,a2,a3],v.oneCell' = true) (b o c : Nat)
  (hc : ∀ j,j < 3 → (w.cell? ⟨b,o + j,none⟩).isSome = true) (hf : ∀ j,j < 3 → w.frozen? ⟨b,o + j,none⟩ = false) :
  (Builtin.clear_ #[t] ty #[.slice (some ⟨b,o,none⟩) 1 c]).run P w = .ok (.tuple #[]) (w.setCells b o [a1,a2,a3]) := by
 have hzc : (Builtin.zeroCells z.cells 1).toList = [a1,a2,a3] := by
  rw [hz]
  simp [Builtin.zeroCells,Array.toList_range,List.range,List.range.loop]
 have hst := run_storeCells_cells (P:=P) b o [a1,a2,a3] 0 w (by simpa using hc) (by simpa using hf) h1
 simp only [Nat.add_zero] at hst
 simp [Builtin.clear_,run_underlying ht,hv,hzc,hst]
/-- Only block g of w's blocks may have turned. -/
def FarEq (w W : World) (g : Nat) : Prop := w.heap.size ≤ W.heap.size ∧ ∀ k,k < w.heap.size → k ≠ g → W.heap[k]? = w.heap[k]?
theorem far_refl (w : World) (g : Nat) : FarEq w w g := ⟨Nat.le_refl _,fun _ _ _ => rfl⟩
theorem far_below {w W W' : World} {g : Nat} (h : FarEq w W g) (hb : Below W.heap.size W W') : FarEq w W' g := ⟨Nat.le_trans h.1 hb.size,fun k hk hg => (hb.block k (Nat.lt_of_lt_of_le hk h.1)).trans (h.2 k hk hg)⟩
theorem far_set {w W : World} {g : Nat} (h : FarEq w W g) {b j : Nat} (hp : b = g ∨ w.heap.size ≤ b) (u : Value) : FarEq w (W.setCell ⟨b,j,none⟩ u) g :=
 ⟨Nat.le_trans h.1 ((Below.refl 0 W).setCell (p:=⟨b,j,none⟩) (Nat.zero_le _) u).size,fun k hk hg => (Below.heap_setCell W ⟨b,j,none⟩ u k (by show k ≠ b; rcases hp with e | e; rw [e]; exact hg; omega)).trans (h.2 k hk hg)⟩
set_option maxHeartbeats 8000000 in
set_option maxRecDepth 100000 in
theorem del_obj (key : ByteArray) (B g cap : Nat) (l : List S71) (c : Nat) (w0 w : World) (hB : Below w0.heap.size w0 w) (ho : Kd.R k71 71 w w0.heap.size (fun _ => True) (.slice (some ⟨g,0,none⟩) l.length cap) l) (hkey : w.heap[B]? = some (.cells #[.string key] 9 (0,0))) (hBg : B ≠ g)
  (hc : c < l.length) (hhit : ∀ j,j < l.length → ((l.getD j z71).f0.toList == key.toList) = decide (j = c)) (hsz : l.length ≤ 3518437208000) :
  Calls Try.prog 60 #[.slice (some ⟨g,0,none⟩) l.length cap,.func (.func 61) #[] #[.pointer (some ⟨B,0,none⟩)]] w fun e w' =>
   e = .returned (.slice (some ⟨g,0,none⟩) (l.length - 1) cap) ∧ Kd.R k71 71 w' w0.heap.size (fun _ => True) (.slice (some ⟨g,0,none⟩) (l.length - 1) cap) (l.take c ++ l.drop (c + 1)) ∧ Below w0.heap.size w0 w' ∧ FarEq w w' g := by
 have hidx := idx_obj B key (some ⟨g,0,none⟩) cap l w (Kd.R_reads' ho).2.2 (by omega) hkey
 have hcap : l.length ≤ cap := (Kd.R_reads' ho).2.1
 have hq : idxQ (fun i => (l.getD i z71).f0.toList == key.toList) l.length 0 = (c : Int) := by
  have e : ∀ (d i : Nat),i + d = l.length → idxQ (fun i => (l.getD i z71).f0.toList == key.toList) d i = idxQ (fun i => decide (i = c)) d i := by
   intro d
   induction d with
   | zero => intro i _; rfl
   | succ d ih =>
    intro i hi
    show (if ((l.getD i z71).f0.toList == key.toList) = true then (i : Int) else _) = if decide (i = c) = true then (i : Int) else _
    rw [hhit i (by omega),ih (i + 1) (by omega)]
  rw [e l.length 0 (by omega)]
  exact idxQ_hit c _ (fun _ => rfl) l.length 0 (by omega) (by omega)
 rw [hq] at hidx
 clear hq
 have hBlt : B < w.heap.size := blk_lt hkey
 have HI := Aside0.mk hidx
 have HK := Aside0.mk hkey
 have HB := Aside0.mk hB
 have HO := Aside0.mk ho
 have HH := Aside0.mk hhit
 have NG := Aside0.mk (show B ≠ g from hBg)
 have GB := Aside0.mk (Kd.R_base ho g (by simp [Value.ownBlock]))
 have hu26 := Try.underlying26
 have hu71 := Try.underlying71
 have hne1 : ((c : Int) == -1) = false := beq_eq_false_iff_ne.2 (by omega)
 have HF0 := Aside0.mk (far_refl w g)
 have BL := Aside0.mk hBlt
 clear hidx hkey hB ho hhit hBg hBlt
 go_enter Try.func60,Try.ntmps60
 go_wp2_with (go_at_call 76; refine HI.out.mono ?_; rintro e w1 ⟨rfl,hb⟩; have HF1 := Aside0.mk (far_below HF0.out hb); have HO1 := Aside0.mk (Kd.R_below HO.out hb); have HB1 := Aside0.mk (HB.out.trans (hb.mono HB.out.size) : Below w0.heap.size w0 w1); clear HF0 HI hb)
 go_loopg [5,6,7] l.length (fun gg s5 s6 _ wr => ∃ (m : Nat) (i j : Int),s5 = .int .i64 i ∧ s6 = .int .i64 j ∧ i = ((c + m : Nat) : Int) ∧ j = ((c + m + 1 : Nat) : Int) ∧ c + m + 1 ≤ l.length ∧ l.length - (c + m + 1) ≤ gg ∧ Aside0 (Kd.R k71 71 wr w0.heap.size (fun _ => True) (.slice (some ⟨g,0,none⟩) l.length cap) (shiftL l c m)) ∧ Aside0 (Below w0.heap.size w0 wr) ∧ Aside0 (FarEq w wr g))
 case atStart => exact ⟨0,_,_,rfl,rfl,by first | omega | (unfold wrap64; omega),by first | omega | (unfold wrap64; omega),by omega,by omega,HO1,HB1,HF1⟩
 case round =>
  clear HO1 HB1 HF1
  obtain ⟨m,i,j,rfl,rfl,hi,hj,hm,hgg,HO1,HB1,HF1⟩ := hrel
  have len_ := Aside0.mk (shiftL_len l c m)
  have HB0s := Aside0.mk HB1.out.size
  have HF0s := Aside0.mk HF1.out.1
  by_cases hlt : c + m + 1 < l.length
  ·have p7 : 0 ≤ j := by omega
   have q7 : j < (l.length : Int) := by omega
   obtain ⟨ce,hcl,hM,hcc,hfr⟩ := Kd.R_elem HO1.out z71 j p7 q7
   obtain rfl := k71_openM hM
   have hx0 : wr.cell? ⟨g,j.toNat * 3,none⟩ = _ := hcc 0 _ rfl
   have hx1 : wr.cell? ⟨g,j.toNat * 3 + 1,none⟩ = _ := hcc 1 _ rfl
   have hx2 : wr.cell? ⟨g,j.toNat * 3 + 2,none⟩ = _ := hcc 2 _ rfl
   have hy : (shiftL l c m).getD j.toNat z71 = l.getD (c + m + 1) z71 := by
    rw [show j.toNat = c + m + 1 by omega]
    exact shiftL_hi l c m _ (by omega) (by omega)
   rw [hy] at hx0 hx1 hx2
   rw [show j.toNat = c + m + 1 by omega] at hx0 hx1 hx2
   clear hcl hM hcc hfr hy
   have hne := HH.out (c + m + 1) hlt
   rw [decide_eq_false (show ¬ c + m + 1 = c by omega)] at hne
   generalize hyy : l.getD (c + m + 1) z71 = y at hx0 hx1 hx2 hne
   have Y := Aside0.mk hyy
   clear hyy
   have HNE := Aside0.mk hne
   clear hne
   go_upto_region 8 with (first | ((with_reducible refine gate_dst (N:=7) rfl ?_); refine box_event ?hg (N:=7) ?hd (cs := #[.string ⟨#[]⟩,.int .i64 0,.string ⟨#[]⟩]) (t:=71) ?hr ?_; (case hd => rfl); (case hg => rfl); (case hr => first | (go_simp; done) | (go_simp; rfl)); intro gb hg w7 hbox hb; have hgle : wr.heap.size ≤ gb := (by rw [hg]; first | exact Nat.le_refl _ | (simp; done) | (simp; omega)); have HO7 := Aside0.mk (Kd.R_below (Kd.R_elderB HO1.out gb hgle) hb); have HB7 := Aside0.mk (below_step HB1.out hb); have HF7 := Aside0.mk (far_below HF1.out hb); have BK7 := Aside0.mk hbox; have GE7 := Aside0.mk hgle; have hcz0 : w7.cell? ⟨gb,0,none⟩ = some (.string ⟨#[]⟩) := (blk_cell BK7.out 0).trans rfl; have hcz1 : w7.cell? ⟨gb,1,none⟩ = some (.int .i64 0) := (blk_cell BK7.out 1).trans rfl; have hcz2 : w7.cell? ⟨gb,2,none⟩ = some (.string ⟨#[]⟩) := (blk_cell BK7.out 2).trans rfl; have hfz0 := blk_frozen BK7.out 0; have hfz1 := blk_frozen BK7.out 1; have hfz2 := blk_frozen BK7.out 2; clear hb hbox hg HB1 HO1))
   clear hx0 hx1 hx2
   have GW7 := Aside0.mk (show w0.heap.size ≤ gb from Nat.le_trans HB0s.out GE7.out)
   have GV7 := Aside0.mk (show w.heap.size ≤ gb from Nat.le_trans HF0s.out GE7.out)
   have n0 := Aside0.mk (blk_put (cs := #[.string y.f0,.int .i64 y.f1,.string ⟨#[]⟩]) (blk_put (cs := #[.string y.f0,.int .i64 0,.string ⟨#[]⟩]) (blk_put (cs := #[.string ⟨#[]⟩,.int .i64 0,.string ⟨#[]⟩]) BK7.out 0 (.string y.f0) rfl) 1 (.int .i64 y.f1) rfl) 2 (.string y.f2) rfl)
   have n1 := Aside0.mk (Kd.R_far (p:=⟨gb,2,none⟩) (Kd.R_far (p:=⟨gb,1,none⟩) (Kd.R_far (p:=⟨gb,0,none⟩) HO7.out (fun _ hk => hk.2) (.string y.f0)) (fun _ hk => hk.2) (.int .i64 y.f1)) (fun _ hk => hk.2) (.string y.f2))
   have n2 := Aside0.mk (below_set (j:=2) (v:=.string y.f2) (below_set (j:=1) (v:=.int .i64 y.f1) (below_set (j:=0) (v:=.string y.f0) HB7.out GW7.out) GW7.out) GW7.out)
   have n3 := Aside0.mk (far_set (b:=gb) (j:=2) (far_set (b:=gb) (j:=1) (far_set (b:=gb) (j:=0) HF7.out (.inr GV7.out) (.string y.f0)) (.inr GV7.out) (.int .i64 y.f1)) (.inr GV7.out) (.string y.f2))
   clear hcz0 hcz1 hcz2 hfz0 hfz1 hfz2 BK7 HO7 HB7 HF7
   generalize (((w7.setCell ⟨gb,0,none⟩ (.string y.f0)).setCell ⟨gb,1,none⟩ (.int .i64 y.f1)).setCell ⟨gb,2,none⟩ (.string y.f2)) = w8 at n0 n1 n2 n3 ⊢
   have hcE0 : w8.cell? ⟨gb,0,none⟩ = some (.string y.f0) := (blk_cell n0.out 0).trans rfl
   have hcE1 : w8.cell? ⟨gb,1,none⟩ = some (.int .i64 y.f1) := (blk_cell n0.out 1).trans rfl
   have hcE2 : w8.cell? ⟨gb,2,none⟩ = some (.string y.f2) := (blk_cell n0.out 2).trans rfl
   have hcall := wo_one y.f0 y.f1 y.f2 key B w8 ((n3.out.2 B BL.out NG.out).trans HK.out)
   rw [HNE.out] at hcall
   have HCALL := Aside0.mk hcall
   clear hcall
   have p9 : 0 ≤ ((c + m : Nat) : Int) := by omega
   have q9 : ((c + m : Nat) : Int) < (l.length : Int) := by omega
   have P9 := Aside0.mk p9
   have Q9 := Aside0.mk q9
   clear p9 q9
   go_wp2_with (first
    | (go_at_call 61; refine HCALL.out.mono ?_; rintro e w9 ⟨rfl,hb⟩; have BK9 := Aside0.mk ((hb.block gb (blk_lt n0.out)).trans n0.out); have HO9 := Aside0.mk (Kd.R_below n1.out hb); have HB9 := Aside0.mk (below_step n2.out hb); have HF9 := Aside0.mk (far_below n3.out hb); clear hb hcE0 hcE1 hcE2; have hcE0 : w9.cell? ⟨gb,0,none⟩ = some (.string y.f0) := (blk_cell BK9.out 0).trans rfl; have hcE1 : w9.cell? ⟨gb,1,none⟩ = some (.int .i64 y.f1) := (blk_cell BK9.out 1).trans rfl; have hcE2 : w9.cell? ⟨gb,2,none⟩ = some (.string y.f2) := (blk_cell BK9.out 2).trans rfl; obtain ⟨ce,hcl,hM,hcc,hfr⟩ := Kd.R_elem HO9.out z71 ((c + m : Nat) : Int) P9.out Q9.out; obtain rfl := k71_openM hM; have HP := Kd.R_seg HO9.out ((c + m : Nat) : Int) P9.out Q9.out (seg := [.string y.f0,.int .i64 y.f1,.string y.f2]) (j:=0) hcl hcc (show 3 ≤ 3 from by decide) (x':=y) (k71_mkM _ _ _ y) (fun _ hk => hk); have hx0 : w9.cell? ⟨g,(c + m) * 3,none⟩ = _ := hcc 0 _ rfl; have hx1 : w9.cell? ⟨g,(c + m) * 3 + 1,none⟩ = _ := hcc 1 _ rfl; have hx2 : w9.cell? ⟨g,(c + m) * 3 + 2,none⟩ = _ := hcc 2 _ rfl; have hf0 : w9.frozen? ⟨g,(c + m) * 3,none⟩ = false := hfr 0; have hf1 : w9.frozen? ⟨g,(c + m) * 3 + 1,none⟩ = false := hfr 1; have hf2 : w9.frozen? ⟨g,(c + m) * 3 + 2,none⟩ = false := hfr 2; have HPA := Aside0.mk HP; clear hcl hM hcc hfr HP)
    | ((with_reducible refine gate_store (t:=71) (p:=33) rfl ?_); refine store_event (t:=71) (p:=33) (v:=?vo) (w1 := (((w9.setCell ⟨g,(c + m) * 3,none⟩ (.string y.f0)).setCell ⟨g,(c + m) * 3 + 1,none⟩ (.int .i64 y.f1)).setCell ⟨g,(c + m) * 3 + 2,none⟩ (.string y.f2))) ?hg ?ho ?hn ?hr ?_; (case ho => rfl); (case hg => rfl); (case hn => rfl); (case hr => first | (go_simp; done) | (go_simp; rfl)); intro w13 hw; have HO13 : Aside0 (Kd.R k71 71 w13 w0.heap.size (fun k_ => True ∧ k_ ≠ gb) (.slice (some ⟨g,0,none⟩) l.length cap) (shiftL l c (m + 1))) := ⟨by rw [hw]; show Kd.R _ _ _ _ _ _ ((shiftL l c m).set (c + m) (l.getD (c + m + 1) z71)); rw [Y.out]; exact HPA.out.1⟩; have HB13 : Aside0 (Below w0.heap.size w0 w13) := ⟨by rw [hw]; exact below_set (below_set (below_set HB9.out GB.out) GB.out) GB.out⟩; have HF13 : Aside0 (FarEq w w13 g) := ⟨by rw [hw]; exact far_set (far_set (far_set HF9.out (.inl rfl) _) (.inl rfl) _) (.inl rfl) _⟩; clear hw HPA hx0 hx1 hx2 hf0 hf1 hf2 HO9 HB9 HF9))
   go_roundg (l.length - (c + m + 2))
   case measure => omega
   case rel => exact ⟨m + 1,_,_,rfl,rfl,by first | omega | (unfold wrap64; omega),by first | omega | (unfold wrap64; omega),by omega,Nat.le_refl _,⟨Kd.R_mono HO13.out (fun _ _ => trivial)⟩,HB13,HF13⟩
  ·have hend : c + m + 1 = l.length := by omega
   have p9 : 0 ≤ ((c + m : Nat) : Int) := by omega
   have q9 : ((c + m : Nat) : Int) < (l.length : Int) := by omega
   obtain ⟨ce,hcl,hM,hcc,hfr⟩ := Kd.R_elem HO1.out z71 ((c + m : Nat) : Int) p9 q9
   obtain rfl := k71_openM hM
   have HP := Aside0.mk (Kd.R_seg HO1.out ((c + m : Nat) : Int) p9 q9 (seg := [.string ⟨#[]⟩,.int .i64 0,.string ⟨#[]⟩]) (j:=0) hcl hcc (show 3 ≤ 3 from by decide) (x':=z71) (k71_mkM _ _ _ z71) (fun _ hk => hk))
   have hclr : ∀ ty,(Builtin.clear_ #[26] ty #[.slice (some ⟨g,(c + m) * 3,none⟩) (l.length - (c + m)) (cap - (c + m))]).run Try.prog wr = .ok (.tuple #[]) (wr.setCells g ((c + m) * 3) [.string ⟨#[]⟩,.int .i64 0,.string ⟨#[]⟩]) := fun ty => by
    rw [show l.length - (c + m) = 1 by omega]
    exact run_clear3 wr _ 71 ty (.agg #[.string ⟨#[]⟩,.int .i64 0,.string ⟨#[]⟩]) _ _ _ hu26 (fun W => by kernel_rfl) rfl (by intro v hv; simp at hv; rcases hv with rfl | rfl | rfl <;> rfl) g ((c + m) * 3) _ (fun q hq => by
     rcases q with _ | _ | _ | q
     ·exact Option.isSome_iff_exists.2 ⟨_,hcc 0 _ rfl⟩
     ·exact Option.isSome_iff_exists.2 ⟨_,hcc 1 _ rfl⟩
     ·exact Option.isSome_iff_exists.2 ⟨_,hcc 2 _ rfl⟩
     ·omega) (fun q hq => hfr q)
   have hltz : ¬ ((c : Int) + (m : Int) + 1 < (l.length : Int)) := by omega
   clear hcl hM hcc hfr p9 q9
   have HB2 := Aside0.mk (show Below w0.heap.size w0 (wr.setCells g ((c + m) * 3) [.string ⟨#[]⟩,.int .i64 0,.string ⟨#[]⟩]) from below_set (below_set (below_set HB1.out GB.out) GB.out) GB.out)
   have HF2 := Aside0.mk (show FarEq w (wr.setCells g ((c + m) * 3) [.string ⟨#[]⟩,.int .i64 0,.string ⟨#[]⟩]) g from far_set (far_set (far_set HF1.out (.inl rfl) _) (.inl rfl) _) (.inl rfl) _)
   go_wp2
   go_ret
   have e1 : l.length - 1 = c + m := by omega
   have h1 := Kd.R_take (m:=c + m) HP.out.1 (by rw [List.length_set,len_.out]; omega)
   have e2 : ((shiftL l c m).set ((c + m : Nat) : Int).toNat z71).take (c + m) = l.take c ++ l.drop (c + 1) := by
    have h2 := shiftL_end l c m hend
    rw [e1] at h2
    rw [← h2,Int.toNat_natCast]
    apply List.ext_getElem?
    intro t
    rw [List.getElem?_take,List.getElem?_take,List.getElem?_set]
    by_cases ht : t < c + m
    ·rw [if_pos ht,if_pos ht,if_neg (by omega)]
    ·rw [if_neg ht,if_neg ht]
   rw [e2] at h1
   rw [e1]
   exact ⟨rfl,h1,HB2.out,HF2.out⟩
-- DEL
def oneK (l : List S71) (key : ByteArray) (c : Nat) : Bool := decide (c < l.length) && (List.range l.length).all fun j => ((l.getD j z71).f0.toList == key.toList) == decide (j = c)
def impl_Store_without.f (l0 : List S71) (a1 : Int) (a2 : ByteArray) : Option (List S71 × Int) := if l0.length ≤ 3518437208000 ∧ oneK l0 a2 (cntK l0 a2) = true then some (l0.take (cntK l0 a2) ++ l0.drop (cntK l0 a2 + 1),a1) else none
set_option maxHeartbeats 4000000 in
set_option maxRecDepth 100000 in
theorem impl_Store_without.calls (A0 : Option Addr) (c0 : Nat) (l0 : List S71) (a1 : Int) (a2 : ByteArray) (r1 : List S71) (r2 : Int) (w : World) (hr0 : Kd.C k71 w A0 l0.length l0) (hc0 : l0.length ≤ c0) (h : impl_Store_without.f l0 a1 a2 = some (r1,r2)) :
  Calls Try.prog 33 #[.agg #[.slice A0 l0.length c0,.int .i64 a1],.string a2] w fun e w' => ∃ v0_ : Value,e = .returned (.agg #[v0_,.int .i64 r2]) ∧ Kd.R k71 71 w' w.heap.size (fun _ => True) v0_ r1 ∧ Below w.heap.size w w' := by
 -- behind impl_Store_find
 unfold impl_Store_without.f at h
 split at h
 ·rename_i hb_
  obtain ⟨hlen,hone⟩ := hb_
  obtain ⟨rfl,rfl⟩ := Prod.mk.inj (Option.some.inj h)
  clear h
  generalize cntK l0 a2 = c at hone ⊢
  unfold oneK at hone
  rw [Bool.and_eq_true,decide_eq_true_eq,List.all_eq_true] at hone
  obtain ⟨hc,hall⟩ := hone
  have hhit : ∀ j,j < l0.length → ((l0.getD j z71).f0.toList == a2.toList) = decide (j = c) := fun j hj => by simpa using hall j (List.mem_range.2 hj)
  clear hall
  have HH := Aside0.mk hhit
  have HC := Aside0.mk hc
  have HL := Aside0.mk hlen
  have hcop := fun W (hW : Below w.heap.size w W) => impl_Store_copied.calls A0 c0 l0 a1 l0 a1 W (Kd.C_below hr0 hW) hc0 (by
   have : ([] : List S71).length + l0.length < 3518437208883 := by simp; omega
   unfold impl_Store_copied.f impl_Object.f
   simp only [Option.bind_some,if_pos this]
   rfl)
  have HCOP := Aside0.mk hcop
  have HB := Aside0.mk (Below.refl w.heap.size w)
  have hu28 := Try.underlying28
  clear hhit hc hlen hcop hr0 hc0
  go_enter Try.func33,Try.ntmps33
  go_upto_region 2 with (first
   | ((with_reducible refine gate_dst (N:=2) rfl ?_); refine box_event ?hg (N:=2) ?hd (cs := #[.slice A0 l0.length c0,.int .i64 a1]) (t:=28) ?hr ?_; (case hd => rfl); (case hg => rfl); (case hr => first | (go_simp; done) | (go_simp; rfl)); intro gs hgs w2 hbox hb; have HB2 := Aside0.mk (below_step HB.out hb); have hcs0 : w2.cell? ⟨gs,0,none⟩ = some (.slice A0 l0.length c0) := (blk_cell hbox 0).trans rfl; have hcs1 : w2.cell? ⟨gs,1,none⟩ = some (.int .i64 a1) := (blk_cell hbox 1).trans rfl; clear hb hbox hgs)
   | ((with_reducible refine gate_dst (N:=3) rfl ?_); refine box_event ?hg (N:=3) ?hd (cs := #[.string a2]) (t:=9) ?hr ?_; (case hd => rfl); (case hg => rfl); (case hr => first | (go_simp; done) | (go_simp; rfl)); intro gk hgk w3 hbox hb; have HB3 := Aside0.mk (below_step HB2.out hb); have BKk3 := Aside0.mk hbox; replace hcs0 := (hb.cell (World.block_lt_of_cell? _ _ hcs0)).trans hcs0; replace hcs1 := (hb.cell (World.block_lt_of_cell? _ _ hcs1)).trans hcs1; clear hb hbox hgk)
   | ((with_reducible refine gate_dst (N:=4) rfl ?_); refine box_event ?hg (N:=4) ?hd (cs := #[.slice none 0 0,.int .i64 0]) (t:=28) ?hr ?_; (case hd => rfl); (case hg => rfl); (case hr => first | (go_simp; done) | (go_simp; rfl)); intro g4 hg4 w4 hbox hb; have HB4 := Aside0.mk (below_step HB3.out hb); have BKk4 := Aside0.mk ((hb.block gk (blk_lt BKk3.out)).trans BKk3.out); have BK44 := Aside0.mk hbox; have hgw4 := Aside0.mk (show w.heap.size ≤ g4 from by rw [hg4]; exact HB3.out.size); replace hcs0 := (hb.cell (World.block_lt_of_cell? _ _ hcs0)).trans hcs0; replace hcs1 := (hb.cell (World.block_lt_of_cell? _ _ hcs1)).trans hcs1; clear hb hbox hg4 BKk3)
   | (go_at_call 32; refine (HCOP.out _ (by repeat (first | (with_reducible exact HB4.out) | apply below_alloc | apply pw_below_drewN | apply below_drew1))).mono ?_; rintro e w5 ⟨v0,rfl,hR,hb⟩; have HB5 := Aside0.mk (below_step HB4.out hb); have BKk5 := Aside0.mk ((hb.block gk (blk_lt BKk4.out)).trans BKk4.out); have BK45 := Aside0.mk ((hb.block g4 (blk_lt BK44.out)).trans BK44.out); obtain ⟨g,cap,rfl,hgb,hgl,cls,hcls⟩ := Kd.R_form hR (by have := HC.out; omega); have NKg := Aside0.mk (show gk ≠ g from by have := blk_lt BKk4.out; omega); have N4g := Aside0.mk (show g4 ≠ g from by have := blk_lt BK44.out; omega); have HO5 := Aside0.mk (Kd.R_lower hR HB4.out.size); have hgl5 := Aside0.mk hgl; clear hb hR hgb hgl hcls)
   | ((with_reducible refine gate_dst (N:=5) rfl ?_); refine box_event ?hg (N:=5) ?hd (cs := #[.slice none 0 0,.int .i64 0]) (t:=28) ?hr ?_; (case hd => rfl); (case hg => rfl); (case hr => first | (go_simp; done) | (go_simp; rfl)); intro g5 hg5 w6 hbox hb; have HB6 := Aside0.mk (below_step HB5.out hb); have BKk6 := Aside0.mk ((hb.block gk (blk_lt BKk5.out)).trans BKk5.out); have BK46 := Aside0.mk ((hb.block g4 (blk_lt BK45.out)).trans BK45.out); have BK56 := Aside0.mk hbox; have HO6 := Aside0.mk (Kd.R_below HO5.out hb); have hgw5 := Aside0.mk (show w.heap.size ≤ g5 from by rw [hg5]; exact HB5.out.size); have NK5 := Aside0.mk (show gk ≠ g5 from by have := blk_lt BKk5.out; rw [hg5]; first | exact Nat.ne_of_lt this | (simp; omega)); have N45 := Aside0.mk (show g4 ≠ g5 from by have := blk_lt BK45.out; rw [hg5]; first | exact Nat.ne_of_lt this | (simp; omega)); have Ng5 := Aside0.mk (show g5 ≠ g from by have := hgl5.out; rw [hg5]; first | exact (Nat.ne_of_lt this).symm | (simp; omega)); have hcz0 : w6.cell? ⟨g5,0,none⟩ = some (.slice none 0 0) := (blk_cell BK56.out 0).trans rfl; have hcz1 : w6.cell? ⟨g5,1,none⟩ = some (.int .i64 0) := (blk_cell BK56.out 1).trans rfl; have hfz0 := blk_frozen BK56.out 0; have hfz1 := blk_frozen BK56.out 1; clear hb hbox hg5))
  have n0 := Aside0.mk (blk_put (cs := #[.slice (some ⟨g,0,none⟩) l0.length cap,.int .i64 0]) (blk_put (cs := #[.slice none 0 0,.int .i64 0]) BK56.out 0 (.slice (some ⟨g,0,none⟩) l0.length cap) rfl) 1 (.int .i64 a1) rfl)
  have n1 := Aside0.mk (Kd.R_far (p:=⟨g5,1,none⟩) (Kd.R_far (p:=⟨g5,0,none⟩) (Kd.R_types HO6.out BK56.out (by decide)) (fun _ hk => hk.2) (.slice (some ⟨g,0,none⟩) l0.length cap)) (fun _ hk => hk.2) (.int .i64 a1))
  have n2 := Aside0.mk (below_set (j:=1) (v:=.int .i64 a1) (below_set (j:=0) (v:=.slice (some ⟨g,0,none⟩) l0.length cap) HB6.out hgw5.out) hgw5.out)
  have n3 := Aside0.mk (blk_far (p:=⟨g5,1,none⟩) (blk_far (p:=⟨g5,0,none⟩) BKk6.out NK5.out (.slice (some ⟨g,0,none⟩) l0.length cap)) NK5.out (.int .i64 a1))
  have n4 := Aside0.mk (blk_far (p:=⟨g5,1,none⟩) (blk_far (p:=⟨g5,0,none⟩) BK46.out N45.out (.slice (some ⟨g,0,none⟩) l0.length cap)) N45.out (.int .i64 a1))
  clear hcz0 hcz1 hfz0 hfz1 BK56 HO6 HB6 BKk6 BK46
  generalize ((w6.setCell ⟨g5,0,none⟩ (.slice (some ⟨g,0,none⟩) l0.length cap)).setCell ⟨g5,1,none⟩ (.int .i64 a1)) = w7 at n0 n1 n2 n3 n4 ⊢
  have hcz0 : w7.cell? ⟨g5,0,none⟩ = some (.slice (some ⟨g,0,none⟩) l0.length cap) := (blk_cell n0.out 0).trans rfl
  go_wp2_with (go_at_call 60; refine (del_obj a2 gk g cap l0 c w _ (by repeat (first | (with_reducible exact n2.out) | apply pw_below_drewN | apply below_drew1)) (by (with_reducible repeat (first | apply Kd.R_drewN | apply Kd.R_drew)); exact Kd.R_mono n1.out (fun _ _ => trivial)) (by (with_reducible repeat (first | refine blk_drewN ?_ _ | refine blk_drew ?_)); exact n3.out) NKg.out HC.out HH.out HL.out).mono ?_; rintro e w8 ⟨rfl,hO,hB,hF⟩; have BK58 := Aside0.mk ((hF.2 g5 (blk_lt n0.out) Ng5.out).trans n0.out); have BK48 := Aside0.mk ((hF.2 g4 (blk_lt n4.out) N4g.out).trans n4.out); have HO8 := Aside0.mk hO; have HB8 := Aside0.mk hB; clear hO hB hF hcz0; have hcz0 : w8.cell? ⟨g5,0,none⟩ = some (.slice (some ⟨g,0,none⟩) l0.length cap) := (blk_cell BK58.out 0).trans rfl; have hcz1 : w8.cell? ⟨g5,1,none⟩ = some (.int .i64 a1) := (blk_cell BK58.out 1).trans rfl; have hfz0 := blk_frozen BK58.out 0; have hfz1 := blk_frozen BK58.out 1; have hcy0 : w8.cell? ⟨g4,0,none⟩ = some (.slice none 0 0) := (blk_cell BK48.out 0).trans rfl; have hcy1 : w8.cell? ⟨g4,1,none⟩ = some (.int .i64 0) := (blk_cell BK48.out 1).trans rfl; have hfy0 := blk_frozen BK48.out 0; have hfy1 := blk_frozen BK48.out 1; have hn1 := N45.out; have hn2 := N45.out.symm)
  have m4 := blk_put (cs := #[.slice (some ⟨g,0,none⟩) (l0.length - 1) cap,.int .i64 0]) (blk_put (cs := #[.slice none 0 0,.int .i64 0]) (blk_far (p:=⟨g5,0,none⟩) BK48.out N45.out (.slice (some ⟨g,0,none⟩) (l0.length - 1) cap)) 0 (.slice (some ⟨g,0,none⟩) (l0.length - 1) cap) rfl) 1 (.int .i64 a1) rfl
  have m1 := Kd.R_far (p:=⟨g4,1,none⟩) (Kd.R_far (p:=⟨g4,0,none⟩) (Kd.R_far (p:=⟨g5,0,none⟩) (Kd.R_types (Kd.R_types HO8.out BK48.out (by decide)) BK58.out (by decide)) (fun _ hk => hk.2) (.slice (some ⟨g,0,none⟩) (l0.length - 1) cap)) (fun _ hk => hk.1.2) (.slice (some ⟨g,0,none⟩) (l0.length - 1) cap)) (fun _ hk => hk.1.2) (.int .i64 a1)
  have m2 := below_set (j:=1) (v:=.int .i64 a1) (below_set (j:=0) (v:=.slice (some ⟨g,0,none⟩) (l0.length - 1) cap) (below_set (j:=0) (v:=.slice (some ⟨g,0,none⟩) (l0.length - 1) cap) HB8.out hgw5.out) hgw4.out) hgw4.out
  refine bodyPost_ret (results_cell_row rfl _ _ g4 28 #[.slice (some ⟨g,0,none⟩) (l0.length - 1) cap,.int .i64 a1] (0,0) _ rfl m4 hu28 rfl (by kernel_rfl)) rfl ?_
  exact ⟨_,rfl,Kd.R_mono m1 (fun _ _ => trivial),m2⟩
 ·cases h

end Go.Proofs.Ytbodkbaniebfaaa.XFnExactDeleteVersion
