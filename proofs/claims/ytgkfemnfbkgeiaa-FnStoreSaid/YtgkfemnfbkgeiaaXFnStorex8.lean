-- Printed by this session's own program wip/tools/xprint.py, which widens the kit's print. Not trusted: Lean checks it.
import Derived.Test.YtgkfemnfbkgeiaaXFnStorex0
import Derived.Test.YtgkfemnfbkgeiaaXFnStorex6
import Derived.Test.YtgkfemnfbkgeiaaXFnStorex7
namespace Go.Proofs.Ytgkfemnfbkgeiaa.XFnStore
open List (setIfInBounds_toArray set_cons_zero set_cons_succ)
open Go.RowKit Go.Proofs.YtgkfemnfbkgeiaaW.PrintWords Go.Proofs.YtgkfemnfbkgeiaaW.PrintLast Go.Proofs.YtgkfemnfbkgeiaaW.PrintMore
attribute [local go_sem] max2_int min2_int max_two min_two max_three min_three max_four min_four   -- for this text's walks alone
set_option linter.unusedVariables false
set_option linter.unusedSimpArgs false

/-! ### impl_storeCode: function 34 -/
def impl_storeCode.f (k : Nat) (l0_0 : List (S32)) (a0_1 : Int) (a1 : ByteArray) : Option (Int) := (impl_StoreOK.f k l0_0 a0_1).bind fun t350 => ((impl_KeyOK.f k a1).bind fun t351 => ((impl_first.f k (([anyB (!t350),anyI 1,anyB (!t351),anyI 19] : List AnyV))).bind fun t355 => (some t355)))
theorem impl_storeCode.mono : ∀ a0 a1 a2 k,LeO (impl_storeCode.f k a0 a1 a2) (impl_storeCode.f (k + 1) a0 a1 a2) := by
 intro a0 a1 a2 k
 unfold impl_storeCode.f
 repeat' first
 | (with_reducible first | exact impl_KeyOK.mono .. | exact impl_StoreOK.mono .. | exact impl_first.mono .. | exact LeO.refl _ | exact LeO.none _ | refine LeO.ite ?_ ?_ | refine LeO.bind ?_ (fun _ => ?_))
 | exact LeO.none _ | refine LeO.ite ?_ ?_ | refine LeO.bind ?_ (fun _ => ?_)
set_option maxHeartbeats 8000000 in
set_option maxRecDepth 100000 in
theorem impl_storeCode.calls (k : Nat) (A0_0 : Option Addr) (c0_0 : Nat) (l0_0 : List (S32)) (a0_1 : Int) (a1 : ByteArray) (r : Int) (w : World) (hr0_0 : Kd.C k32 w A0_0 l0_0.length l0_0) (hc0_0 : l0_0.length ≤ c0_0) (h : impl_storeCode.f k l0_0 a0_1 a1 = some r) :
  Calls Try.prog 34 #[.agg #[.slice A0_0 l0_0.length c0_0,.int .i64 a0_1],.string a1] w fun e w' => e = .returned (.int .i64 r) ∧ Below w.heap.size w w' := by
 have hu25 := Try.underlying25
 have hua20 := Try.underlying20
 have HR0_0 := Aside0.mk hr0_0
 have HC0_0 := Aside0.mk hc0_0
 clear hr0_0 hc0_0
 have HB := Aside0.mk (Below.refl w.heap.size w)
 have H : ((impl_StoreOK.f k l0_0 a0_1).bind fun t350 => ((impl_KeyOK.f k a1).bind fun t351 => ((impl_first.f k (([anyB (!t350),anyI 1,anyB (!t351),anyI 19] : List AnyV))).bind fun t355 => (some t355)))) = some r := h
 clear h
 replace H := Option.bind_eq_some_iff.mp H
 obtain ⟨t350,A30,H⟩ := H
 try dsimp only at H
 have A3 := Aside0.mk A30
 clear A30
 replace H := Option.bind_eq_some_iff.mp H
 obtain ⟨t351,A40,H⟩ := H
 try dsimp only at H
 have A4 := Aside0.mk A40
 clear A40
 obtain ⟨y352,hy352⟩ : ∃ y_ : List AnyV,y_ = (([anyB (!t350),anyI 1,anyB (!t351),anyI 19] : List AnyV)) := ⟨_,rfl⟩
 replace H : ((impl_first.f k y352).bind fun t355 => (some t355)) = some r := by first | (rw [hy352]; with_reducible exact H) | (have H2_ := (Option.bind_some _ _).symm.trans H; rw [hy352]; with_reducible exact H2_) | (have H2_ := (Option.bind_some _ _).symm.trans H; with_reducible exact H2_) | with_reducible exact H | (rw [hy352]; exact H) | exact H
 have Ny352 := Aside0.mk hy352
 clear hy352
 replace H := Option.bind_eq_some_iff.mp H
 obtain ⟨t355,A50,H⟩ := H
 try dsimp only at H
 have A5 := Aside0.mk A50
 clear A50
 obtain rfl := Option.some.inj H
 go_enter Try.func34,Try.ntmps34
 go_wp2_with (first | ((with_reducible refine gate_dst (N:=2) rfl ?_); refine bxe (N:=2) (cs := #[.slice A0_0 l0_0.length c0_0,.int .i64 a0_1]) (t:=25) ?_; intro gb349 hg w6 hbox hb; have BK349 := Aside0.mk (hbox); have GW349 := Aside0.mk ((gw hg : w.heap.size ≤ gb349)); have GE349 := GW349; replace HB := bsA hb; clear hb hbox hg; obtain ⟨hcz7_0,hcz7_1⟩ := cl2 BK349.out; obtain ⟨hfz7_0,hfz7_1⟩ := fz2 BK349.out) | ((with_reducible refine gate_callee (f:=17) rfl ?_); refine goesL_ (some 6) rfl rfl Try.func17 (by kernel_rfl) rfl #[.agg #[.slice A0_0 l0_0.length c0_0,.int .i64 a0_1]] rfl mA ?_; (with_reducible refine (impl_StoreOK.calls k _ _ l0_0 a0_1 t350 _ ?side1 ?side2 A3.out).mono ?_); (case side1 => exact sC HR0_0.out); (case side2 => exact HC0_0.out); rintro e w8 ⟨rfl,hb⟩; refine ⟨_,rfl,?_⟩; replace BK349 := bbA BK349 hb; replace HB := bsA hb; clear hb) | ((with_reducible refine gate_callee (f:=18) rfl ?_); refine goesL_ (some 11) rfl rfl Try.func18 (by kernel_rfl) rfl #[.string a1] rfl mA ?_; (with_reducible refine (impl_KeyOK.calls k a1 t351 _ A4.out).mono ?_); rintro e w' ⟨rfl,⟨nd,rfl⟩⟩; refine ⟨_,rfl,?_⟩) | ((with_reducible refine gate_dst (N:=15) rfl ?_); refine Kd.R_lit kAny _ 20 ?hg (N:=15) ?hd (xs := ([anyB (!t350),anyI 1,anyB (!t351),anyI 19] : List AnyV)) (inner := [.iface 4 (.bool (!t350)),.iface 3 (.int .i64 1),.iface 4 (.bool (!t351)),.iface 3 (.int .i64 19)]) (ok := fun _ => True) (okp := fun _ => True) ?hr ?hp (fun _ hk => hk) trivial (Below.refl _ _) (Nat.le_refl _) (by simp) ?_; (case hd => rfl); (case hg => rfl); (case hr => first | (go_simp; done) | (go_simp; rfl)); (case hp => exact (Reps.one (show Kd.M kAny _ _ _ (anyB (!t350)) [.iface 4 (.bool (!t350))] from rfl) (Reps.one (show Kd.M kAny _ _ _ (anyI 1) [.iface 3 (.int .i64 1)] from rfl) (Reps.one (show Kd.M kAny _ _ _ (anyB (!t351)) [.iface 4 (.bool (!t351))] from rfl) (Reps.one (show Kd.M kAny _ _ _ (anyI 19) [.iface 3 (.int .i64 19)] from rfl) (Reps.none _ _)))))); intro v353 w9 ho10 hb hg_ hnew_; clear hg_ hnew_; (first | rw [← Ny352.out] at ho10 | (simp only [Int.reduceToNat] at ho10; rw [← Ny352.out] at ho10)); have HO354 := Aside0.mk (Kd.R_lower ho10 (below_size bA)); replace BK349 := bbA BK349 hb; replace HB := bsA hb; clear hb ho10; obtain ⟨Ao11,co11,eo11⟩ := Kd.R_slice HO354.out; subst eo11) | ((with_reducible refine gate_callee (f:=23) rfl ?_); refine goesL_ (some 16) rfl rfl Try.func23 (by kernel_rfl) rfl #[.slice Ao11 y352.length co11] rfl mA ?_; (with_reducible refine (impl_first.calls k _ _ y352 t355 _ ?side1 ?side2 A5.out).mono ?_); (case side1 => repeat (first | exact (Kd.R_reads' HO354.out).2.2 | (with_reducible refine Kd.C_alloc ?_ _) | (with_reducible refine Kd.C_drewN ?_ _) | (with_reducible refine Kd.C_drew ?_))); (case side2 => exact (Kd.R_reads' HO354.out).2.1); rintro e w' ⟨rfl,⟨nd,rfl⟩⟩; refine ⟨_,rfl,?_⟩))
 go_ret
 exact ⟨by first | rfl | (simp [errW_none,errW_some] <;> rfl) | (simp [*,errW_none,errW_some] <;> rfl),bA⟩

/-! ### impl_Store_find: function 40 (by hand) -/
def cmpK (key : ByteArray) (x : S32) : Int := Lib.compareBytes x.f0.data.toList key.data.toList
def lowK (l : List S32) (key : ByteArray) (i : Nat) : Bool := decide (cmpK key (l.getD i z32) < 0)
def cntK (l : List S32) (key : ByteArray) : Nat := l.countP (fun x => decide (cmpK key x < 0))
def hasK (l : List S32) (key : ByteArray) : Bool := decide (cntK l key < l.length) && decide (cmpK key (l.getD (cntK l key) z32) = 0)
def monoK (l : List S32) (key : ByteArray) : Bool := (List.range l.length).all fun b => !(lowK l key b) || (List.range b).all fun a => lowK l key a
theorem monoK_at {l : List S32} {key : ByteArray} (h : monoK l key = true) {a b : Nat} (hab : a ≤ b) (hb : b < l.length) (hl : lowK l key b = true) : lowK l key a = true := by
 unfold monoK at h
 rw [List.all_eq_true] at h
 have := h b (List.mem_range.2 hb)
 rw [hl] at this
 rw [Bool.not_true,Bool.false_or,List.all_eq_true] at this
 rcases Nat.eq_or_lt_of_le hab with rfl | hlt
 ·exact hl
 ·exact this a (List.mem_range.2 hlt)
theorem countP_cut {α : Type} (p : α → Bool) (d : α) : ∀ (l : List α) (i : Nat),i ≤ l.length → (∀ t,t < i → p (l.getD t d) = true) → (∀ t,i ≤ t → t < l.length → p (l.getD t d) = false) → l.countP p = i
 | [],i,hi,_,_ => by simp at hi; simp [hi]
 | a :: r,0,_,_,h2 => by
  rw [List.countP_eq_zero]
  intro x hx
  obtain ⟨t,ht,rfl⟩ := List.getElem_of_mem hx
  have := h2 t (Nat.zero_le _) ht
  rw [List.getD_eq_getElem?_getD,List.getElem?_eq_getElem ht] at this
  simpa using this
 | a :: r,i + 1,hi,h1,h2 => by
  have ha : p a = true := by simpa using h1 0 (Nat.succ_pos _)
  rw [List.countP_cons_of_pos ha,countP_cut p d r i (by simpa using hi) (fun t ht => by simpa using h1 (t + 1) (by omega)) (fun t h3 h4 => by simpa using h2 (t + 1) (by omega) (by simpa using h4))]
theorem find_cmp (x0 : ByteArray) (x1 : Int) (x2 : ByteArray) (key : ByteArray) (W : World) : Calls Try.prog 63 #[.agg #[.string x0,.int .i64 x1,.string x2],.string key] W fun e w' => e = .returned (.int .i64 (cmpK key ⟨x0,x1,x2⟩)) ∧ Below W.heap.size W w' := by
 unfold cmpK
 have HB := Aside0.mk (Below.refl W.heap.size W)
 go_enter Try.func63,Try.ntmps63
 go_wp2_with (go_at_call 64; refine (Try.strings_Compare _ _ _).mono ?_; rintro e w' ⟨rfl,rfl⟩)
 go_ret
 exact ⟨rfl,by repeat (first | (with_reducible exact HB.out) | apply below_alloc | apply pw_below_drewN | apply below_drew1)⟩
set_option maxHeartbeats 4000000 in
set_option maxRecDepth 100000 in
theorem find_bs (A0 : Option Addr) (c0 : Nat) (l0 : List S32) (key : ByteArray) (w : World) (hr0 : Kd.C k32 w A0 l0.length l0) (hsz : l0.length ≤ 140737488351232) (hm : monoK l0 key = true) :
  Calls Try.prog 62 #[.slice A0 l0.length c0,.string key,.func (.func 63) #[] #[]] w fun e w' =>
   e = .returned (.tuple #[.int .i64 (cntK l0 key : Nat),.bool (hasK l0 key)]) ∧ Below w.heap.size w w' := by
 have HR := Aside0.mk hr0
 have M := Aside0.mk hm
 have S0 := Aside0.mk (Below.refl w.heap.size w)
 have u44 := Try.underlying32
 clear hr0 hm
 generalize hcnt : cntK l0 key = cnt
 have CN := Aside0.mk hcnt
 clear hcnt
 generalize hfin : hasK l0 key = fin
 have FIN := Aside0.mk hfin
 clear hfin
 go_enter Try.func62,Try.ntmps62
 go_wp2
 go_loopg [9,10] l0.length (fun kx s9 s10 wr => ∃ lo hi : Nat,s9 = .int .i64 lo ∧ s10 = .int .i64 hi ∧ lo ≤ hi ∧ hi ≤ l0.length ∧ hi - lo ≤ kx ∧ Aside0 (Below w.heap.size w wr) ∧ Aside0 ((∀ t,t < lo → lowK l0 key t = true) ∧ (∀ t,hi ≤ t → t < l0.length → lowK l0 key t = false)))
 case atStart => exact ⟨0,l0.length,rfl,rfl,Nat.zero_le _,Nat.le_refl _,by omega,S0,⟨fun t ht => absurd ht (Nat.not_lt_zero _),fun t h1 h2 => by omega⟩⟩
 case round =>
  clear S0
  obtain ⟨lo,hi,rfl,rfl,hlh,hin,hg,HB,I⟩ := hrel
  by_cases hlt : lo < hi
  ·have p0 : 0 ≤ ((lo : Int) + (hi : Int)) / 2 := by omega
   have q0 : ((lo : Int) + (hi : Int)) / 2 < (l0.length : Int) := by omega
   obtain ⟨ad,ea,h0,h1,h2⟩ := at_T32 HR.out (((lo : Int) + (hi : Int)) / 2) p0 q0
   cases ea
   replace h0 := cb HB.out h0
   replace h1 := cb HB.out h1
   replace h2 := cb HB.out h2
   have eN : (((lo : Int) + (hi : Int)) / 2).toNat = (lo + hi) / 2 := by omega
   rw [eN] at h0 h1 h2
   generalize hy : rd_T32 l0 (((lo : Int) + (hi : Int)) / 2) = y at h0 h1 h2
   have Y : Aside0 (l0.getD ((lo + hi) / 2) z32 = y) := ⟨by rw [← hy]; unfold rd_T32; rw [eN]⟩
   clear hy eN
   have hc := fun W => find_cmp y.f0 y.f1 y.f2 key W
   have hyd : (⟨y.f0,y.f1,y.f2⟩ : S32) = y := rfl
   rw [hyd] at hc
   clear hyd
   have HC := Aside0.mk hc
   clear hc
   by_cases hyx : cmpK key y < 0
   ·go_wp2_with (go_at_call 63; refine (HC.out _).mono ?_; rintro e w' ⟨rfl,hb⟩; have HB2 := Aside0.mk (HB.out.trans (hb.mono HB.out.size) : Below w.heap.size w w'); clear hb)
    go_roundg (hi - ((lo + hi) / 2 + 1))
    case measure => omega
    case rel =>
     have I2 : Aside0 ((∀ t,t < (lo + hi) / 2 + 1 → lowK l0 key t = true) ∧ (∀ t,hi ≤ t → t < l0.length → lowK l0 key t = false)) := ⟨fun t ht => monoK_at M.out (show t ≤ (lo + hi) / 2 by omega) (by omega) (by unfold lowK; rw [Y.out]; exact decide_eq_true hyx),I.out.2⟩
     exact ⟨(lo + hi) / 2 + 1,hi,by rw [show ((lo : Int) + (hi : Int)) / 2 + 1 = (((lo + hi) / 2 + 1 : Nat) : Int) by omega],rfl,by omega,hin,Nat.le_refl _,HB2,I2⟩
   ·go_wp2_with (go_at_call 63; refine (HC.out _).mono ?_; rintro e w' ⟨rfl,hb⟩; have HB2 := Aside0.mk (HB.out.trans (hb.mono HB.out.size) : Below w.heap.size w w'); clear hb)
    go_roundg ((lo + hi) / 2 - lo)
    case measure => omega
    case rel =>
     have I2 : Aside0 ((∀ t,t < lo → lowK l0 key t = true) ∧ (∀ t,(lo + hi) / 2 ≤ t → t < l0.length → lowK l0 key t = false)) := ⟨I.out.1,fun t ht htn => by
      cases hq : lowK l0 key t with
      | false => rfl
      | true =>
       have := monoK_at M.out ht htn hq
       unfold lowK at this
       rw [Y.out] at this
       have := of_decide_eq_true this
       omega⟩
     exact ⟨lo,(lo + hi) / 2,rfl,by rw [show ((lo : Int) + (hi : Int)) / 2 = (((lo + hi) / 2 : Nat) : Int) by omega],by omega,by omega,Nat.le_refl _,HB2,I2⟩
  ·obtain rfl : hi = lo := by omega
   have ec : cnt = hi := CN.out.symm.trans (countP_cut _ z32 l0 hi hin (fun t ht => I.out.1 t ht) (fun t h3 h4 => I.out.2 t h3 h4))
   clear I M
   subst ec
   by_cases hn : cnt < l0.length
   ·have p0 : 0 ≤ (cnt : Int) := by omega
    have q0 : (cnt : Int) < (l0.length : Int) := by omega
    obtain ⟨ad,ea,h0,h1,h2⟩ := at_T32 HR.out (cnt : Int) p0 q0
    cases ea
    replace h0 := cb HB.out h0
    replace h1 := cb HB.out h1
    replace h2 := cb HB.out h2
    rw [Int.toNat_natCast] at h0 h1 h2
    generalize hy : rd_T32 l0 (cnt : Int) = y at h0 h1 h2
    have Y : Aside0 (l0.getD cnt z32 = y) := ⟨by rw [← hy]; unfold rd_T32; rw [Int.toNat_natCast]⟩
    clear hy
    have hc := fun W => find_cmp y.f0 y.f1 y.f2 key W
    have hyd : (⟨y.f0,y.f1,y.f2⟩ : S32) = y := rfl
    rw [hyd] at hc
    clear hyd
    have HC := Aside0.mk hc
    clear hc
    have F2 : Aside0 (fin = decide (cmpK key y = 0)) := ⟨by rw [← FIN.out]; unfold hasK; rw [CN.out,Y.out,decide_eq_true hn,Bool.true_and]⟩
    by_cases hyx : cmpK key y = 0
    ·go_wp2_with (go_at_call 63; refine (HC.out _).mono ?_; rintro e w' ⟨rfl,hb⟩; have HB2 := Aside0.mk (HB.out.trans (hb.mono HB.out.size) : Below w.heap.size w w'); clear hb)
     go_ret2
     exact ⟨by rw [F2.out]; simp [hyx],HB2.out⟩
    ·go_wp2_with (go_at_call 63; refine (HC.out _).mono ?_; rintro e w' ⟨rfl,hb⟩; have HB2 := Aside0.mk (HB.out.trans (hb.mono HB.out.size) : Below w.heap.size w w'); clear hb)
     go_ret2
     exact ⟨by rw [F2.out]; simp [hyx],HB2.out⟩
   ·have F2 : Aside0 (fin = false) := ⟨by rw [← FIN.out]; unfold hasK; rw [CN.out,decide_eq_false hn,Bool.false_and]⟩
    go_wp2
    go_ret2
    exact ⟨by rw [F2.out]; simp [hn],HB.out⟩
def impl_Store_find.f (l0 : List S32) (a1 : Int) (a2 : ByteArray) : Option (Int × Bool) := if l0.length ≤ 140737488351232 ∧ monoK l0 a2 = true then some ((cntK l0 a2 : Nat),hasK l0 a2) else none
set_option maxHeartbeats 2000000 in
theorem impl_Store_find.calls (A0 : Option Addr) (c0 : Nat) (l0 : List S32) (a1 : Int) (a2 : ByteArray) (r1 : Int) (r2 : Bool) (w : World) (hr0 : Kd.C k32 w A0 l0.length l0) (hc0 : l0.length ≤ c0) (h : impl_Store_find.f l0 a1 a2 = some (r1,r2)) :
  Calls Try.prog 40 #[.agg #[.slice A0 l0.length c0,.int .i64 a1],.string a2] w fun e w' => e = .returned (.tuple #[.int .i64 r1,.bool r2]) ∧ Below w.heap.size w w' := by
 unfold impl_Store_find.f at h
 split at h
 ·rename_i hb
  obtain ⟨rfl,rfl⟩ := Prod.mk.inj (Option.some.inj h)
  have hcon := Aside0.mk (fun W (hW : Below w.heap.size w W) => find_bs A0 c0 l0 a2 W (Kd.C_below hr0 hW) hb.1 hb.2)
  clear hr0 hc0 h hb
  generalize hasK l0 a2 = q at hcon ⊢
  generalize (cntK l0 a2 : Int) = n at hcon ⊢
  generalize l0.length = m at hcon ⊢
  have HB := Aside0.mk (Below.refl w.heap.size w)
  go_enter Try.func40,Try.ntmps40
  go_wp2_with (go_at_call 62; refine (hcon.out _ (by repeat (first | (with_reducible exact HB.out) | apply below_alloc | apply pw_below_drewN | apply below_drew1))).mono ?_; rintro e w' ⟨rfl,hb⟩; have HB2 := Aside0.mk hb; clear hb)
  go_ret2
  exact ⟨rfl,Below.trans (by repeat (first | (with_reducible exact HB.out) | apply below_alloc | apply pw_below_drewN | apply below_drew1)) (HB2.out.mono (by first | exact Nat.le_refl _ | exact HB.out.size | (simp; done) | (simp; omega)))⟩
 ·cases h

/-! ### impl_Object_58: function 58 -/
def impl_Object_58.f (l0 : List (S32)) : Option ((List (S32))) := (some (([] : List (S32)) : List (S32))).bind fun y356 => (if y356.length + l0.length < 3518437208883 then (some (y356 ++ l0)) else (none))
theorem nil_in58 (w : World) (d : Nat) (t e : TypeId) (P : Program) (a : Option Addr) (l c : Nat) (h : P.underlying t = some (.slice e)) : (Op.equalIn (d + 1) t (.slice a l c) (.slice none 0 0)).run P w = .ok a.isNone w := by
 cases a <;> simp [Op.equalIn,run_underlying h]
theorem nil_test58 (t e : TypeId) (P : Program) (a : Option Addr) (l c : Nat) (h : P.underlying t = some (.slice e)) (w : World) : (binOp .eql t (.slice a l c) (.slice none 0 0)).run P w = .ok (.bool a.isNone) w := by
 simp only [binOp]
 simp [Op.equal,Op.maxDepth,nil_in58 w 9999 t e P a l c h]
set_option maxHeartbeats 8000000 in
set_option maxRecDepth 100000 in
theorem impl_Object_58.calls (A0 : Option Addr) (c0 : Nat) (l0 : List (S32)) (r : List (S32)) (w : World) (hr0 : Kd.C k32 w A0 l0.length l0) (hc0 : l0.length ≤ c0) (h : impl_Object_58.f l0 = some r) :
  Calls Try.prog 58 #[.slice A0 l0.length c0] w fun e w' => ∃ v0_ : Value,e = .returned (v0_) ∧ Kd.R k32 32 w' w.heap.size (fun _ => True) v0_ r ∧ Below w.heap.size w w' := by
 cases A0 with
 | none =>
  obtain rfl : l0 = [] := by
   cases l0 with
   | nil => rfl
   | cons a_ l_ => obtain ⟨ad_,e_,_⟩ := hr0.2.2 (Nat.succ_pos _); cases e_
  obtain rfl : ([] : List (S32)) = r := by simpa [impl_Object_58.f] using h
  have HB := Aside0.mk (Below.refl w.heap.size w)
  have hnil_ := fun W : World => nil_test58 23 32 Try.prog none 0 c0 Try.underlying23 W
  go_enter Try.func58,Try.ntmps58
  go_wp2_with (first | (simp only [hnil_,Option.isNone_none]; simp only [Result.andThen]))
  go_ret
  exact ⟨_,rfl,by first | exact Kd.R_nil _ _ _ _ _ | exact Kd.N_nil _ _ _ _ _,HB.out⟩
 | some A0 =>
  have hnil_ := fun W : World => nil_test58 23 32 Try.prog (some A0) l0.length c0 Try.underlying23 W
  have HR0 := Aside0.mk hr0
  have HC0 := Aside0.mk hc0
  clear hr0 hc0
  have HB := Aside0.mk (Below.refl w.heap.size w)
  have H : ((some (([] : List (S32)) : List (S32))).bind fun y356 => (if y356.length + l0.length < 3518437208883 then (some (y356 ++ l0)) else (none))) = some r := h
  clear h
  obtain ⟨y356,hy356⟩ : ∃ y_ : List (S32),y_ = (([] : List (S32))) := ⟨_,rfl⟩
  replace H : (if y356.length + l0.length < 3518437208883 then (some (y356 ++ l0)) else (none)) = some r := by first | (rw [hy356]; with_reducible exact H) | (have H2_ := (Option.bind_some _ _).symm.trans H; rw [hy356]; with_reducible exact H2_) | (have H2_ := (Option.bind_some _ _).symm.trans H; with_reducible exact H2_) | with_reducible exact H | (rw [hy356]; exact H) | exact H
  have Ny356 := Aside0.mk hy356
  clear hy356
  by_cases c2 : y356.length + l0.length < 3518437208883
  ·rw [if_pos c2] at H
   have LMc2 := Aside0.mk c2
   clear c2
   obtain ⟨y359,hy359⟩ : ∃ y_ : List (S32),y_ = (y356 ++ l0) := ⟨_,rfl⟩
   replace H : (some y359) = some r := by first | (rw [hy359]; with_reducible exact H) | (have H2_ := (Option.bind_some _ _).symm.trans H; rw [hy359]; with_reducible exact H2_) | (have H2_ := (Option.bind_some _ _).symm.trans H; with_reducible exact H2_) | with_reducible exact H | (rw [hy359]; exact H) | exact H
   have Ny359 := Aside0.mk hy359
   clear hy359
   obtain rfl := Option.some.inj H
   go_enter Try.func58,Try.ntmps58
   go_wp2_with (first | (simp only [hnil_,Option.isNone_some]; simp only [Result.andThen]) | ((with_reducible refine gate_dst (N:=5) rfl ?_); refine Kd.R_lit k32 _ 32 ?hg (N:=5) ?hd (xs := ([] : List (S32))) (inner := []) (ok := fun _ => True) (okp := fun _ => True) ?hr ?hp (fun _ hk => hk) trivial (Below.refl _ _) (Nat.le_refl _) (by simp) ?_; (case hd => rfl); (case hg => rfl); (case hr => first | (go_simp; done) | (go_simp; rfl)); (case hp => exact (Reps.none _ _)); intro v357 w3 ho4 hb hg_ hnew_; clear hg_ hnew_; (first | rw [← Ny356.out] at ho4 | (simp only [Int.reduceToNat] at ho4; rw [← Ny356.out] at ho4)); have HO358 := Aside0.mk (Kd.R_lower ho4 (below_size bA)); replace HB := bsA hb; clear hb ho4) | ((with_reducible refine gate_builtin (b:=.append) (xs := #[.tmp 5,.tmp 6]) rfl ?_); at_builtin; refine Kd.R_append_rows k32 (w0 := w) w.heap.size rfl (.tmp 5) (.tmp 6) 23 32 (.agg #[(.string ⟨#[]⟩),(.int .i64 0),(.string ⟨#[]⟩)]) 40 rfl Try.underlying23 info32 rfl (by decide) (by omega) v357 y356 l0 _ _ _ (fun _ => True) (fun _ => False) rfl rfl ?aO ?aR (fun _ _ h => h) (fun _ h => h.elim) ?aF ?aB ?aS ?aL ?_; (case aR => exact sC HR0.out); (case aB => exact bA); (case aF => exact (fun _ _ => trivial)); (case aO => exact (rA HO358.out)); (case aS => exact (below_size bA)); (case aL => have := LMc2.out; omega); intro v360 w5 ho hb hg hat; rw [← Ny359.out] at ho; replace HB := Aside0.mk (hb); have HO361 := Aside0.mk (ho); clear HO358; clear ho hb hg hat))
   go_ret
   exact ⟨_,by first | rfl | (simp [errW_none,errW_some] <;> rfl) | (simp [*,errW_none,errW_some] <;> rfl),rA HO361.out,bA⟩
  ·rw [if_neg c2] at H
   exact absurd H (by simp)


/-! ### impl_Store_copied: function 36 -/
def impl_Store_copied.f (l0_0 : List (S32)) (a0_1 : Int) : Option ((List (S32)) × Int) := (impl_Object_58.f l0_0).bind fun t364 => (some (t364,a0_1))
set_option maxHeartbeats 8000000 in
set_option maxRecDepth 100000 in
theorem impl_Store_copied.calls (A0_0 : Option Addr) (c0_0 : Nat) (l0_0 : List (S32)) (a0_1 : Int) (r1 : List (S32)) (r2 : Int) (w : World) (hr0_0 : Kd.C k32 w A0_0 l0_0.length l0_0) (hc0_0 : l0_0.length ≤ c0_0) (h : impl_Store_copied.f l0_0 a0_1 = some (r1,r2)) :
  Calls Try.prog 36 #[.agg #[.slice A0_0 l0_0.length c0_0,.int .i64 a0_1]] w fun e w' => ∃ v0_ : Value,e = .returned (.agg #[v0_,.int .i64 r2]) ∧ Kd.R k32 32 w' w.heap.size (fun _ => True) v0_ r1 ∧ Below w.heap.size w w' := by
 have hu25 := Try.underlying25
 have HR0_0 := Aside0.mk hr0_0
 have HC0_0 := Aside0.mk hc0_0
 clear hr0_0 hc0_0
 have HB := Aside0.mk (Below.refl w.heap.size w)
 have H : ((impl_Object_58.f l0_0).bind fun t364 => (some (t364,a0_1))) = some (r1,r2) := h
 clear h
 replace H := Option.bind_eq_some_iff.mp H
 obtain ⟨t364,A20,H⟩ := H
 try dsimp only at H
 have A2 := Aside0.mk A20
 clear A20
 simp only [Option.some.injEq,Prod.mk.injEq] at H
 obtain ⟨rfl,rfl⟩ := H
 go_enter Try.func36,Try.ntmps36
 try go_wp2_with (first | ((with_reducible refine gate_dst (N:=1) rfl ?_); refine bxe (N:=1) (cs := #[.slice A0_0 l0_0.length c0_0,.int .i64 a0_1]) (t:=25) ?_; intro gb362 hg w3 hbox hb; have BK362 := Aside0.mk (hbox); have GW362 := Aside0.mk ((gw hg : w.heap.size ≤ gb362)); have GE362 := GW362; replace HB := bsA hb; clear hb hbox hg) | ((with_reducible refine gate_dst (N:=2) rfl ?_); refine bxe (N:=2) (cs := #[.slice none 0 0,.int .i64 0]) (t:=25) ?_; intro gb363 hg w4 hbox hb; have BK363 := Aside0.mk (hbox); have GW363 := Aside0.mk ((gw hg : w.heap.size ≤ gb363)); have GE363 := GW363; replace HB := bsA hb; have NB362_363 := Aside0.mk ((nl hg BK362.out)); have NB363_362 := Aside0.mk ((ng hg BK362.out)); replace BK362 := bbA BK362 hb; clear hb hbox hg))
 replace BK362 := Aside0.mk (blk_drew BK362.out)
 replace BK363 := Aside0.mk (blk_drew BK363.out)
 replace HB := Aside0.mk (below_drew1 HB.out)
 refine start_ (n:=7) (S:=fun w' => w'.cell? ⟨gb362,0,none⟩ = some (.slice A0_0 l0_0.length c0_0) ∧ w'.cell? ⟨gb362,1,none⟩ = some (.int .i64 a0_1)) (ds := []) (bm 7 0) (by kernel_rfl) rfl rfl ⟨bl BK362 0,bl BK362 1⟩ (fun hHeld => ?_)
 generalize w4.drew = w5 at BK362 BK363 HB hHeld ⊢
 refine pure_ (i:=0) (N:=some 3) (v:=?_) (a':=?_) (bm 7 1) rfl rfl (by kernel_rfl) (fun _ _ _ h => h) (Or.inl ⟨by rfl,?_⟩) ?_ ?_
 rotate_left
 ·intro w'
  go_simp
  with_reducible rfl
 rotate_left
 ·simp only [Act.put,setIfInBounds_toArray,set_cons_zero,set_cons_succ,i64_w,i32_w]
  rfl
 refine pure_ (i:=3) (N:=some 6) (v:=?_) (a':=?_) (bm 7 9) rfl rfl (by kernel_rfl) (fun _ _ _ h => h) (Or.inl ⟨by rfl,?_⟩) ?_ ?_
 rotate_left
 ·intro w'
  go_simp
  with_reducible rfl
 rotate_left
 ·simp only [Act.put,setIfInBounds_toArray,set_cons_zero,set_cons_succ,i64_w,i32_w]
  rfl
 refine take_ (i:=1) (N:=some 4) (v:=?_) (a':=?_) (bm 7 11) rfl rfl (by kernel_rfl) (fun _ _ _ h => h) (Or.inl ⟨by rfl,?_⟩) hHeld ?_ ?_
 rotate_left
 ·rintro w' ⟨s0,s1⟩
  go_simp
  with_reducible rfl
 rotate_left
 ·simp only [Act.put,setIfInBounds_toArray,set_cons_zero,set_cons_succ,i64_w,i32_w]
  rfl
 refine take_ (i:=4) (N:=some 7) (v:=?_) (a':=?_) (bm 7 27) rfl rfl (by kernel_rfl) (fun _ _ _ h => h) (Or.inl ⟨by rfl,?_⟩) hHeld ?_ ?_
 rotate_left
 ·rintro w' ⟨s0,s1⟩
  go_simp
  with_reducible rfl
 rotate_left
 ·simp only [Act.put,setIfInBounds_toArray,set_cons_zero,set_cons_succ,i64_w,i32_w]
  rfl
 refine one_ (i:=2) (N:=some 5) (bm 7 31) rfl rfl (by kernel_rfl) (by decide) (fun K hK => ?_)
 refine goes_ Try.func58 (by kernel_rfl) rfl #[.slice A0_0 l0_0.length c0_0] (by rfl) rfl rfl mA ?_
 with_reducible refine (impl_Object_58.calls _ _ l0_0 t364 _ ?side1 ?side2 A2.out).mono ?_
 (case side1 => exact sC HR0_0.out)
 (case side2 => exact HC0_0.out)
 rintro e w6 ⟨v365,rfl,ho0,hb⟩
 refine ⟨_,rfl,?_⟩
 have HO366 := Aside0.mk (Kd.R_lower ho0 (below_size bA))
 replace BK362 := bbA BK362 hb
 replace BK363 := bbA BK363 hb
 replace HB := bsA hb
 clear hb
 (try clear ho0)
 obtain ⟨Ao7,co7,eo7⟩ := Kd.R_slice HO366.out
 (first | subst eo7 | (injection eo7 with f1_ f2_ f3_; have f4_ := f1_.symm; have f5_ := f3_.symm; clear f1_ f2_ f3_; subst f4_; subst f5_))
 refine hK.out _ _ ⟨bl BK362 0,bl BK362 1⟩ (fun hHeld => ?_)
 clear hK K
 refine nw 5 ?_
 refine pure_ (i:=5) (N:=some 8) (v:=?_) (a':=?_) (bm 7 63) rfl rfl (by kernel_rfl) (fun _ _ _ h => h) (Or.inl ⟨by rfl,?_⟩) ?_ ?_
 rotate_left
 ·intro w'
  go_simp
  with_reducible rfl
 rotate_left
 ·simp only [Act.put,setIfInBounds_toArray,set_cons_zero,set_cons_succ,i64_w,i32_w]
  rfl
 refine one_ (i:=6) (N:=none) (bm 7 127) rfl rfl (by kernel_rfl) (by decide) (fun K hK => ?_)
 have hs8 : w6.cell? ⟨gb363,0,none⟩ = some (.slice none 0 0) := bl BK363 0
 have hfs8 := blk_frozen BK363.out 0
 have hns8_0 := NB362_363.out
 have hms8_0 := NB363_362.out
 have hs9 : w6.cell? ⟨gb363,1,none⟩ = some (.int .i64 0) := bl BK363 1
 have hfs9 := blk_frozen BK363.out 1
 have hns9_0 := NB362_363.out
 have hms9_0 := NB363_362.out
 refine skip_ (w1 := ?_) (by rfl) rfl ?_ ?_
 rotate_left
 ·go_simp
  rfl
 refine hK.out _ _ ⟨((cell_far (p:=⟨gb363,_,none⟩) NB362_363.out _).trans (((cell_far (p:=⟨gb363,_,none⟩) NB362_363.out _).trans (hHeld.1)))),((cell_far (p:=⟨gb363,_,none⟩) NB362_363.out _).trans (((cell_far (p:=⟨gb363,_,none⟩) NB362_363.out _).trans (hHeld.2))))⟩ (fun hHeld => ?_)
 clear hK K
 refine done_ (by kernel_rfl) ?_
 try go_wp2
 refine bodyPost_ret (results_cell_row rfl _ _ gb363 25 #[.slice Ao7 t364.length co7,.int .i64 a0_1] (0,0) _ rfl (kP2 BK363.out) Try.underlying25 rfl (by kernel_rfl)) rfl ?_
 exact ⟨_,by first | rfl | (simp [errW_none,errW_some] <;> rfl) | (simp [*,errW_none,errW_some] <;> rfl),by (with_reducible repeat (first | apply Kd.R_alloc | apply Kd.R_drewN | apply Kd.R_drew)); exact Kd.R_mono (Kd.R_far (p:=⟨gb363,1,none⟩) (Kd.R_far (p:=⟨gb363,0,none⟩) (Kd.R_types HO366.out BK363.out (by decide)) (fun _ hk => hk.2) (.slice Ao7 t364.length co7)) (fun _ hk => hk.2) (.int .i64 a0_1)) (fun _ hk => trivial),bA⟩

/-! ### impl_Object_67: function 67 (by hand) -/
/-! ### slices.Insert at Object: one object, into a row of the call's own -/
theorem heap_setCells (b : Nat) (t : TypeId) : ∀ (vs : List Value) (o : Nat) (w : World) (cs : Array Value),w.heap[b]? = some (.cells cs t (0,0)) → o + vs.length ≤ cs.size →
  ∃ cs' : Array Value,(w.setCells b o vs).heap[b]? = some (.cells cs' t (0,0)) ∧ cs'.size = cs.size ∧ ∀ k,cs'[k]? = if o ≤ k ∧ k < o + vs.length then vs[k - o]? else cs[k]?
 | [],o,w,cs,h,_ => ⟨cs,h,rfl,fun k => by rw [if_neg (fun hh => Nat.lt_irrefl k (Nat.lt_of_lt_of_le hh.2 hh.1))]⟩
 | v :: r,o,w,cs,h,hl => by
  have hl' : o + (r.length + 1) ≤ cs.size := hl
  have h1 : (w.setCell ⟨b,o,none⟩ v).heap[b]? = some (.cells (cs.setIfInBounds o v) t (0,0)) := heap_setCell_same w b o cs t v h
  obtain ⟨cs',e1,e2,e3⟩ := heap_setCells b t r (o + 1) _ _ h1 (by rw [Array.size_setIfInBounds]; omega)
  refine ⟨cs',e1,by rw [e2,Array.size_setIfInBounds],fun k => ?_⟩
  rw [e3 k,Array.getElem?_setIfInBounds]
  show _ = if o ≤ k ∧ k < o + (r.length + 1) then (v :: r)[k - o]? else cs[k]?
  by_cases hk : k = o
  ·subst hk
   rw [if_neg (by omega),if_pos rfl,if_pos (by omega),if_pos (by omega),Nat.sub_self]
   rfl
  ·rw [if_neg (by omega : ¬ o = k)]
   by_cases hin : o + 1 ≤ k ∧ k < o + 1 + r.length
   ·rw [if_pos hin,if_pos (by omega),show k - o = (k - (o + 1)) + 1 by omega,List.getElem?_cons_succ]
   ·rw [if_neg hin,if_neg (by omega)]
theorem heap_setCells_far (b : Nat) : ∀ (vs : List Value) (o : Nat) (w : World) (k : Nat),k ≠ b → (w.setCells b o vs).heap[k]? = w.heap[k]?
 | [],_,_,_,_ => rfl
 | v :: r,o,w,k,h => (heap_setCells_far b r (o + 1) _ k h).trans (heap_setCell_other w ⟨b,o,none⟩ k v h)
theorem grown_setCells (b : Nat) : ∀ (vs : List Value) (o : Nat) (w : World),w.grownBy (w.setCells b o vs) (some b)
 | [],_,w => World.grownBy.refl w _
 | v :: r,o,w => by
  have h := grown_setCells b r (o + 1) (w.setCell ⟨b,o,none⟩ v)
  exact ⟨h.os,h.tape,h.output,Nat.le_trans (by simp [World.setCell]) h.size,fun k hk hg => (h.block k (by simpa [World.setCell] using hk) hg).trans (heap_setCell_other w ⟨b,o,none⟩ k v (fun e => hg (by rw [e])))⟩
/-- 'copy' of elements of three cells, all of it read before anything is written. -/
theorem run_copy3 {P : Program} (w : World) (dT sT ty elem : TypeId) (b o dLen dCap : Nat) (a : Addr) (sLen sCap : Nat) (cs : List Value)
  (hu : P.underlying dT = some (.slice elem)) (hs : (P.info? elem).map (·.size) = some 3) (hn : cs.length = Nat.min sLen dLen * 3)
  (hsrc : ∀ j v,cs[j]? = some v → w.cell? (a.add j) = some v) (hc : ∀ j,j < cs.length → (w.cell? ⟨b,o + j,none⟩).isSome = true) (hf : ∀ j,j < cs.length → w.frozen? ⟨b,o + j,none⟩ = false) (h1 : ∀ v ∈ cs,v.oneCell' = true) :
  (Builtin.copy_ #[dT,sT] ty #[.slice (some ⟨b,o,none⟩) dLen dCap,.slice (some a) sLen sCap]).run P w = .ok (goInt (Nat.min sLen dLen)) (w.setCells b o cs) := by
 have hl := run_loadCells_list (P:=P) w a cs hsrc
 have hst := run_storeCells_cells (P:=P) b o cs 0 w (by simpa using hc) (by simpa using hf) h1
 cases hq : P.info? elem with
 | none => simp [hq] at hs
 | some i =>
  have hi : i.size = 3 := by simpa [hq] using hs
  simp [Builtin.copy_,run_underlying hu,Builtin.lenOf,Builtin.firstCells,sizeOf,typeInfo,hq,hi,← hn,hl,hst]
theorem cells_of_block {w : World} {g : Nat} {cur : Array Value} {t : TypeId} (h : w.heap[g]? = some (.cells cur t (0,0))) (k : Nat) : w.cell? ⟨g,k,none⟩ = cur[k]? := by
 simp [World.cell?,h]
theorem nofreeze_of_block {w : World} {g : Nat} {cur : Array Value} {t : TypeId} (h : w.heap[g]? = some (.cells cur t (0,0))) (k : Nat) : w.frozen? ⟨g,k,none⟩ = false := by
 simp [World.frozen?,h]
/-- the cells that an insertion in place leaves -/
theorem shifted_cells (w : World) (g i n cap : Nat) (cur : Array Value) (xs news : List Value) (hg : w.heap[g]? = some (.cells cur 32 (0,0))) (hcs : cur.size = cap * 3) (htake : cur.toList.take (n * 3) = xs) (hi : i < n) (hroom : n + 1 ≤ cap) (hnl : news.length = 3) :
  ∃ cs' : Array Value,((w.setCells g ((i + 1) * 3) (xs.drop (i * 3))).setCells g (i * 3) news).heap[g]? = some (.cells cs' 32 (0,0)) ∧ cs'.size = cap * 3 ∧ cs'.toList.take ((n + 1) * 3) = xs.take (i * 3) ++ news ++ xs.drop (i * 3) := by
 have hx : xs.length = n * 3 := by rw [← htake,List.length_take,Array.length_toList]; omega
 obtain ⟨c1,e1,e2,e3⟩ := heap_setCells g 32 (xs.drop (i * 3)) ((i + 1) * 3) w cur hg (by rw [List.length_drop]; omega)
 obtain ⟨c2,f1,f2,f3⟩ := heap_setCells g 32 news (i * 3) _ c1 e1 (by omega)
 refine ⟨c2,f1,by omega,?_⟩
 have hxk : ∀ k,k < n * 3 → cur[k]? = xs[k]? := fun k hk => by rw [← htake,List.getElem?_take,if_pos hk,Array.getElem?_toList]
 apply List.ext_getElem?
 intro k
 rw [List.getElem?_take,Array.getElem?_toList,f3 k,hnl]
 have hlt : (xs.take (i * 3) ++ news).length = i * 3 + 3 := by rw [List.length_append,List.length_take]; omega
 by_cases hk : k < (n + 1) * 3
 ·rw [if_pos hk]
  by_cases h1 : k < i * 3
  ·rw [if_neg (by omega),e3 k,if_neg (by omega),List.getElem?_append_left (by omega),List.getElem?_append_left (by rw [List.length_take]; omega),List.getElem?_take,if_pos h1]
   exact hxk k (by omega)
  ·by_cases h2 : k < i * 3 + 3
   ·rw [if_pos (by omega),List.getElem?_append_left (by omega),List.getElem?_append_right (by rw [List.length_take]; omega),List.length_take]
    congr 1
    omega
   ·rw [if_neg (by omega),e3 k,List.length_drop,if_pos (by omega),List.getElem?_append_right (by omega),List.getElem?_drop,List.getElem?_drop]
    congr 1
    omega
 ·rw [if_neg hk,List.getElem?_eq_none]
  rw [List.length_append,hlt,List.length_drop]
  omega
set_option maxHeartbeats 4000000 in
set_option maxRecDepth 100000 in
theorem ins_shift (base : Nat) (w : World) (g i n cap vb : Nat) (cur : Array Value) (xs : List Value) (c0 c1 c2 : Value) (hbg : base ≤ g) (hg : w.heap[g]? = some (.cells cur 32 (0,0))) (hcm : cap ≤ maxLen) (hcs : cur.size = cap * 3) (htake : cur.toList.take (n * 3) = xs)
  (cv : Array Value) (vc : Nat) (hv : w.heap[vb]? = some (.cells cv 32 (0,0))) (hv3 : ∀ (j : Nat) (u : Value),[c0,c1,c2][j]? = some u → cv[j]? = some u) (hne : vb ≠ g) (hi : i < n) (hroom : n + 1 ≤ cap) (h1 : ∀ u ∈ xs,u.oneCell' = true) (h1v : ∀ u ∈ [c0,c1,c2],u.oneCell' = true) :
  Calls Try.prog 67 #[.slice (some ⟨g,0,none⟩) n cap,.int .i64 i,.slice (some ⟨vb,0,none⟩) 1 vc] w fun e w' =>
   e = .returned (.slice (some ⟨g,0,none⟩) (n + 1) cap) ∧ w'.ownsRow base 32 3 (.slice (some ⟨g,0,none⟩) (n + 1) cap) (n + 1) (xs.take (i * 3) ++ [c0,c1,c2] ++ xs.drop (i * 3)) ∧ w.grownBy w' (some g) := by
 have hx : xs.length = n * 3 := by rw [← htake,List.length_take,Array.length_toList]; omega
 have hcm' : cap ≤ 9223372036854775807 := by simpa [maxLen] using hcm
 have hcur : ∀ k,k < n * 3 → cur[k]? = xs[k]? := fun k hk => by rw [← htake,List.getElem?_take,if_pos hk,Array.getElem?_toList]
 have hu26 := Try.underlying23
 have hu71 := Try.underlying32
 have hi71 : (Try.prog.info? 32).map (·.size) = some 3 := by have h := info32; rw [Option.map_eq_some_iff] at h ⊢; obtain ⟨a,ha,hb⟩ := h; exact ⟨a,ha,by simpa using congrArg (fun q => q.2.1) hb⟩
 have hz1 : ¬ ((1 : Int) = 0) := by omega
 have hz2 : ¬ ((i : Int) = (n : Int)) := by omega
 have hov : ∀ W : World,W.heap[vb]? = some (.cells cv 32 (0,0)) → W.heap[g]? = some (.cells cur 32 (0,0)) → ∀ o lb cb,(callFunc 76 #[.slice (some ⟨vb,0,none⟩) 1 vc,.slice (some ⟨g,o,none⟩) lb cb]).run Try.prog W = .ok (.value (.bool false)) W := fun W hWv hWg o lb cb => by
  rw [run_callFunc_extern Try.func76 (by kernel_rfl) (by kernel_rfl) (by kernel_rfl) (e:=Extern.SlicesOverlaps.overlaps #[23,23] #[4]) (by kernel_rfl),
   Lib.run_overlaps_apart W _ _ 32 hu26 3 (fun W' => by kernel_rfl) ⟨vb,0,none⟩ ⟨g,o,none⟩ 1 vc lb cb hne 32 32 cv.size cur.size (by simp [World.shape?,hWv]) (by simp [World.shape?,hWg]) (by omega) (nofreeze_of_block hWv 0) (nofreeze_of_block hWv _)]
  rfl
 have hw1 : IntKind.i64.wrap ((i : Int) + 1) = (i : Int) + 1 := by rw [IntKind.wrap_i64]; omega
 have hw2 : IntKind.i64.wrap ((n : Int) + 1) = (n : Int) + 1 := by rw [IntKind.wrap_i64]; omega
 have hb1 : (0 : Int) ≤ (i : Int) + 1 := by omega
 have hb0 : (0 : Int) ≤ (n : Int) + 1 := by omega
 have hin : i ≤ n := by omega
 have htn : ((i : Int) + 1).toNat = i + 1 := by omega
 have htm : ((n : Int) + 1).toNat = n + 1 := by omega
 have hb2 : ¬ (cap = i + 1) := by omega
 have hb3 : (i : Int) ≤ (n : Int) + 1 := by omega
 have hb4 : ¬ (cap = i) := by omega
 have hdl : (xs.drop (i * 3)).length = (n - i) * 3 := by rw [List.length_drop,hx]; omega
 have hvs : ∀ W : World,W.heap[vb]? = some (.cells cv 32 (0,0)) → ∀ j v,[c0,c1,c2][j]? = some v → W.cell? ((⟨vb,0,none⟩ : Addr).add j) = some v := fun W hW j v hj => by
  rw [Addr.add_lit,Nat.zero_add,cells_of_block hW]
  exact hv3 j v hj
 have hcp1 : ∀ W : World,W.heap[g]? = some (.cells cur 32 (0,0)) → ∀ ty dc sc,(Builtin.copy_ #[23,23] ty #[.slice (some ⟨g,(i + 1) * 3,none⟩) (n - i) dc,.slice (some ⟨g,i * 3,none⟩) (n + 1 - i) sc]).run Try.prog W = .ok (goInt (Nat.min (n + 1 - i) (n - i))) (W.setCells g ((i + 1) * 3) (xs.drop (i * 3))) := fun W hW ty dc sc =>
  run_copy3 W _ _ ty 32 g ((i + 1) * 3) (n - i) dc ⟨g,i * 3,none⟩ (n + 1 - i) sc (xs.drop (i * 3)) hu26 hi71 (by rw [hdl]; simp only [Nat.min_def]; split <;> omega)
   (fun j v hj => by
    rw [Addr.add_lit,cells_of_block hW]
    rw [List.getElem?_drop] at hj
    rw [hcur _ (by have := (List.getElem?_eq_some_iff.1 hj).1; omega)]
    exact hj)
   (fun j hj => by rw [cells_of_block hW,Array.getElem?_eq_getElem (by omega)]; rfl) (fun j hj => nofreeze_of_block hW _) (fun v hv => h1 v (List.mem_of_mem_drop hv))
 obtain ⟨c1_,e1,e2,e3⟩ := heap_setCells g 32 (xs.drop (i * 3)) ((i + 1) * 3) w.drew cur hg (by rw [List.length_drop]; omega)
 obtain ⟨W1,hW1⟩ : ∃ W1,W1 = w.drew.setCells g ((i + 1) * 3) (xs.drop (i * 3)) := ⟨_,rfl⟩
 have hvW1 : W1.heap[vb]? = some (.cells cv 32 (0,0)) := by rw [hW1,heap_setCells_far _ _ _ _ _ hne]; exact hv
 have hgW1 : W1.heap[g]? = some (.cells c1_ 32 (0,0)) := by rw [hW1]; exact e1
 have hcp2 : ∀ ty dc,(Builtin.copy_ #[23,23] ty #[.slice (some ⟨g,i * 3,none⟩) (n + 1 - i) dc,.slice (some ⟨vb,0,none⟩) 1 vc]).run Try.prog W1 = .ok (goInt (Nat.min 1 (n + 1 - i))) (W1.setCells g (i * 3) [c0,c1,c2]) := fun ty dc =>
  run_copy3 W1 _ _ ty 32 g (i * 3) (n + 1 - i) dc ⟨vb,0,none⟩ 1 vc [c0,c1,c2] hu26 hi71 (by simp only [Nat.min_def]; split <;> first | rfl | (exfalso; omega))
   (hvs W1 hvW1) (fun j hj => by rw [cells_of_block hgW1,Array.getElem?_eq_getElem (by simp at hj; omega)]; rfl) (fun j hj => nofreeze_of_block hgW1 _) h1v
 have hcp1 := hcp1 w.drew hg
 rw [← hW1] at hcp1
 have hov := hov w hv hg
 have mixed : Try.prog.follows Departure.mixedOrders = true := by kernel_rfl
 have HG := Aside0.mk hg
 have HV := Aside0.mk hv
 have HT := Aside0.mk htake
 have HS := Aside0.mk hcs
 have HX := Aside0.mk hx
 have HW1 := Aside0.mk hW1
 clear hg hv hv3 htake hcs hx hW1 hcur hvs hdl e1 e2 e3 hvW1 hgW1 h1 h1v hi71
 go_enter Try.func67,Try.ntmps67
 go_wp2_with (simp only [hov])
 go_region_law_o (refine step_copy_runI rfl _ _ 23 23 rfl _ _ (by simp [Act.eval,Act.put]) (by simp [Act.eval,Act.put]) (hcp1 _ _ _) ?_)
 go_wp2_with (at_builtin; refine wpList_copy_runI _ rfl _ _ 23 23 rfl _ _ rfl rfl (hcp2 _ _) ?_)
 go_ret
 obtain ⟨cs',q1,q2,q3⟩ := shifted_cells w.drew g i n cap cur xs [c0,c1,c2] HG.out HS.out HT.out hi hroom rfl
 refine ⟨rfl,⟨?_,.inr ⟨g,cap,cs',rfl,hbg,by rw [HW1.out]; exact q1,hroom,hcm,q2,q3⟩⟩,?_⟩
 ·have := HX.out
  simp
  omega
 ·rw [HW1.out]
  have k1 := grown_setCells g (xs.drop (i * 3)) ((i + 1) * 3) w.drew
  have k2 := grown_setCells g [c0,c1,c2] (i * 3) (w.drew.setCells g ((i + 1) * 3) (xs.drop (i * 3)))
  exact ⟨k2.os.trans k1.os,k2.tape.trans k1.tape,k2.output.trans k1.output,Nat.le_trans k1.size k2.size,fun k hk hgk => (k2.block k (Nat.lt_of_lt_of_le hk k1.size) hgk).trans (k1.block k hk hgk)⟩
set_option maxHeartbeats 4000000 in
set_option maxRecDepth 100000 in
theorem ins_end (base : Nat) (w : World) (v : Value) (n vb : Nat) (xs : List Value) (c0 c1 c2 : Value) (hown : w.ownsRow base 32 3 v n xs) (hbase : base ≤ w.heap.size)
  (cv : Array Value) (vc : Nat) (hv : w.heap[vb]? = some (.cells cv 32 (0,0))) (hv3 : ∀ (j : Nat) (u : Value),[c0,c1,c2][j]? = some u → cv[j]? = some u) (h1v : ∀ u ∈ [c0,c1,c2],u.oneCell' = true) (hn : n ≤ 3518437208000) :
  Calls Try.prog 67 #[v,.int .i64 n,.slice (some ⟨vb,0,none⟩) 1 vc] w fun e w' =>
   ∃ v',e = .returned v' ∧ w'.ownsRow base 32 3 v' (n + 1) (xs ++ [c0,c1,c2]) ∧ w.grownBy w' v.ownBlock ∧ (v'.ownBlock = v.ownBlock ∨ v'.ownBlock = some w.heap.size) := by
 have hu26 := Try.underlying23
 have hu71 := Try.underlying32
 obtain ⟨i0,hi0,hzz⟩ := Option.map_eq_some_iff.1 info32
 simp only [Prod.mk.injEq] at hzz
 obtain ⟨hz0,hz1,hz2⟩ := hzz
 obtain ⟨v',w',hr,ho,hg,_,hat⟩ := run_append_own_at (P:=Try.prog) w base 23 23 32 i0 _ 3 40 hu26 hi0 hz0 hz1 hz2 rfl (by omega) v n xs hown ⟨vb,0,none⟩ 1 vc [c0,c1,c2] rfl
  (fun j u hj => by
   rw [Addr.add_lit,Nat.zero_add,cells_of_block hv]
   exact hv3 j u hj) h1v (by simp only [maxLen]; omega) (by omega) hbase
 have HO := Aside0.mk ho
 have HG := Aside0.mk hg
 have HA := Aside0.mk hat
 rcases hown.2 with ⟨rfl,rfl⟩ | ⟨g,cap,cur,rfl,hbg,hgg,hnc,hcm,hcs,htake⟩
 ·clear ho hg hat hown hv hv3 hi0 hz0 hz1 hz2
  go_enter Try.func67,Try.ntmps67
  go_wp2_with (at_builtin; refine Lib.wpList_append_run _ rfl _ _ _ _ rfl _ _ rfl rfl _ _ hr ?_)
  go_ret
  exact ⟨_,rfl,HO.out,HG.out,HA.out⟩
 ·have hcm' : cap ≤ 9223372036854775807 := by simpa [maxLen] using hcm
  clear ho hg hat hown hv hv3 hi0 hz0 hz1 hz2 hgg hcs htake
  rcases Nat.eq_or_lt_of_le hnc with rfl | hlt
  ·go_enter Try.func67,Try.ntmps67
   go_wp2_with (at_builtin; refine Lib.wpList_append_run _ rfl _ _ _ _ rfl _ _ rfl rfl _ _ hr ?_)
   go_ret
   exact ⟨_,rfl,HO.out,HG.out,HA.out⟩
  ·have hb4 : ¬ (cap = n) := by omega
   go_enter Try.func67,Try.ntmps67
   go_wp2_with (at_builtin; refine Lib.wpList_append_run _ rfl _ _ _ _ rfl _ _ rfl rfl _ _ hr ?_)
   go_ret
   exact ⟨_,rfl,HO.out,HG.out,HA.out⟩
/-- the cells of the new row that an insertion with no room leaves -/
theorem grown_cells (w : World) (b i n G : Nat) (ROW : Array Value) (xs news : List Value) (hb : w.heap[b]? = some (.cells ROW 32 (0,0))) (hR : ROW.size = G * 3) (hx : xs.length = n * 3) (hi : i < n) (hG : n + 1 ≤ G) (hpre : ∀ k,k < i * 3 → ROW[k]? = xs[k]?) (hnl : news.length = 3) :
  ∃ cs' : Array Value,((w.setCells b (i * 3) news).setCells b ((i + 1) * 3) (xs.drop (i * 3))).heap[b]? = some (.cells cs' 32 (0,0)) ∧ cs'.size = G * 3 ∧ cs'.toList.take ((n + 1) * 3) = xs.take (i * 3) ++ news ++ xs.drop (i * 3) := by
 obtain ⟨c1,e1,e2,e3⟩ := heap_setCells b 32 news (i * 3) w ROW hb (by omega)
 obtain ⟨c2,f1,f2,f3⟩ := heap_setCells b 32 (xs.drop (i * 3)) ((i + 1) * 3) _ c1 e1 (by rw [List.length_drop]; omega)
 refine ⟨c2,f1,by omega,?_⟩
 apply List.ext_getElem?
 intro k
 rw [List.getElem?_take,Array.getElem?_toList,f3 k,List.length_drop]
 have hlt : (xs.take (i * 3) ++ news).length = i * 3 + 3 := by rw [List.length_append,List.length_take]; omega
 by_cases hk : k < (n + 1) * 3
 ·rw [if_pos hk]
  by_cases h1 : k < i * 3
  ·rw [if_neg (by omega),e3 k,if_neg (by omega),List.getElem?_append_left (by omega),List.getElem?_append_left (by rw [List.length_take]; omega),List.getElem?_take,if_pos h1]
   exact hpre k h1
  ·by_cases h2 : k < i * 3 + 3
   ·rw [if_neg (by omega),e3 k,if_pos (by omega),List.getElem?_append_left (by omega),List.getElem?_append_right (by rw [List.length_take]; omega),List.length_take]
    congr 1
    omega
   ·rw [if_pos (by omega),List.getElem?_append_right (by omega),List.getElem?_drop,List.getElem?_drop]
    congr 1
    omega
 ·rw [if_neg hk,List.getElem?_eq_none]
  rw [List.length_append,hlt,List.length_drop]
  omega
set_option maxHeartbeats 4000000 in
set_option maxRecDepth 100000 in
theorem ins_grow (base : Nat) (w : World) (g i n vb : Nat) (cur : Array Value) (xs : List Value) (c0 c1 c2 : Value) (hbase : base ≤ w.heap.size) (hg : w.heap[g]? = some (.cells cur 32 (0,0))) (hcs : cur.size = n * 3) (htake : cur.toList.take (n * 3) = xs)
  (cv : Array Value) (vc : Nat) (hv : w.heap[vb]? = some (.cells cv 32 (0,0))) (hv3 : ∀ (j : Nat) (u : Value),[c0,c1,c2][j]? = some u → cv[j]? = some u) (hi : i < n) (h1 : ∀ u ∈ xs,u.oneCell' = true) (h1v : ∀ u ∈ [c0,c1,c2],u.oneCell' = true) (hn : n ≤ 3518437208000) :
  Calls Try.prog 67 #[.slice (some ⟨g,0,none⟩) n n,.int .i64 i,.slice (some ⟨vb,0,none⟩) 1 vc] w fun e w' =>
   ∃ v',e = .returned v' ∧ w'.ownsRow base 32 3 v' (n + 1) (xs.take (i * 3) ++ [c0,c1,c2] ++ xs.drop (i * 3)) ∧ w.grownBy w' (some g) ∧ v'.ownBlock = some w.heap.size := by
 have hx : xs.length = n * 3 := by rw [← htake,List.length_take,Array.length_toList]; omega
 have hcur : ∀ k,k < n * 3 → cur[k]? = xs[k]? := fun k hk => by rw [← htake,List.getElem?_take,if_pos hk,Array.getElem?_toList]
 have hu26 := Try.underlying23
 have hu71 := Try.underlying32
 have hu3 := Try.underlying3
 obtain ⟨i0,hi0,hzz⟩ := Option.map_eq_some_iff.1 info32
 simp only [Prod.mk.injEq] at hzz
 obtain ⟨hz0,hzs,hzb⟩ := hzz
 have hi71 : (Try.prog.info? 32).map (·.size) = some 3 := by rw [hi0]; simp [hzs]
 have hbw : g < w.heap.size := blk_lt hg
 have hvw : vb < w.heap.size := blk_lt hv
 have hz2 : ¬ ((i : Int) = (n : Int)) := by omega
 have hz3 : (n : Int) < (n : Int) + 1 := by omega
 have hkk : (n : Int) + 1 - (i : Int) = ((n + 1 - i : Nat) : Int) := by omega
 have hik : i + (n + 1 - i) = n + 1 := by omega
 have hold : (Builtin.firstCells i0.size i (.slice (some ⟨g,0,none⟩) i n)).run Try.prog w.drew = .ok (xs.take (i * 3)).toArray w.drew := by
  rw [hzs]
  exact run_firstCells_some w.drew 3 i ⟨g,0,none⟩ i n (xs.take (i * 3)) (by rw [List.length_take]; omega) (fun j v hj => by
   rw [Addr.add_lit,Nat.zero_add,cells_of_block (w:=w.drew) hg]
   rw [List.getElem?_take] at hj
   split at hj
   ·rw [hcur j (by omega)]
    exact hj
   ·cases hj)
 have hrz : ∀ ty,(Builtin.append_ #[23,3] ty #[.slice (some ⟨g,0,none⟩) i n,.int .i64 ((n : Int) + 1 - (i : Int))]).run Try.prog w =
   .ok (.slice (some ⟨w.heap.size,0,none⟩) (n + 1) (grownCap w (n + 1) n 32)) (w.drew.alloc (.cells ((xs.take (i * 3)).toArray ++ Builtin.zeroCells (Value.agg #[(.string ⟨#[]⟩),(.int .i64 0),(.string ⟨#[]⟩)]).cells (n + 1 - i) ++ Builtin.zeroCells (Value.agg #[(.string ⟨#[]⟩),(.int .i64 0),(.string ⟨#[]⟩)]).cells (grownCap w (n + 1) n 32 - (n + 1))) 32)) := fun ty => by
  have h := Lib.run_append_grow_zeros w 23 3 ty 32 i0 _ .i64 .i64 hu26 hu3 hi0 hz0 (some ⟨g,0,none⟩) i n (xs.take (i * 3)) hold (n + 1 - i) (by omega) (by omega) (by omega) (by omega) (by rw [hzb]; omega) (by rw [hzb,hik]; exact growslice_fits (by omega) (by omega))
  rw [hik] at h
  rw [hkk]
  exact h
 obtain ⟨G,hG⟩ : ∃ G,G = grownCap w (n + 1) n 32 := ⟨_,rfl⟩
 have hGn : n + 1 ≤ G := by rw [hG]; exact grownCap_ge w _ _ _
 have hGm : G ≤ maxLen := by rw [hG]; exact grownCap_le_maxLen w (n + 1) n 32 (by unfold maxLen; omega)
 have hG63 : G ≤ 9223372036854775807 := by simpa [maxLen] using hGm
 obtain ⟨ROW,hROW⟩ : ∃ ROW : Array Value,ROW = (xs.take (i * 3)).toArray ++ Builtin.zeroCells (Value.agg #[(.string ⟨#[]⟩),(.int .i64 0),(.string ⟨#[]⟩)]).cells (n + 1 - i) ++ Builtin.zeroCells (Value.agg #[(.string ⟨#[]⟩),(.int .i64 0),(.string ⟨#[]⟩)]).cells (G - (n + 1)) := ⟨_,rfl⟩
 rw [← hG] at hrz
 rw [← hROW] at hrz
 have hc3 : (Value.agg #[(.string ⟨#[]⟩),(.int .i64 0),(.string ⟨#[]⟩)]).cells.size = 3 := rfl
 have hRl : ROW.size = G * 3 := by
  rw [hROW]
  simp only [Array.size_append,size_zeroCells,hc3,List.size_toArray,List.length_take]
  omega
 have hpre : ∀ k,k < i * 3 → ROW[k]? = xs[k]? := fun k hk => by
  rw [hROW,Array.append_assoc,Array.getElem?_append_left (by simp only [List.size_toArray,List.length_take]; omega),List.getElem?_toArray,List.getElem?_take,if_pos hk]
 obtain ⟨W1,hW1⟩ : ∃ W1,W1 = w.drew.alloc (.cells ROW 32) := ⟨_,rfl⟩
 rw [← hW1] at hrz
 have hNb : W1.heap[w.heap.size]? = some (.cells ROW 32 (0,0)) := by rw [hW1]; exact heap_alloc_new w.drew _
 have hOb : W1.heap[g]? = some (.cells cur 32 (0,0)) := by rw [hW1]; first | exact (heap_alloc_old w.drew _ g hbw).trans hg | exact (heap_alloc_old w.drew _ hbw).trans hg
 have hOv : W1.heap[vb]? = some (.cells cv 32 (0,0)) := by rw [hW1]; first | exact (heap_alloc_old w.drew _ vb hvw).trans hv | exact (heap_alloc_old w.drew _ hvw).trans hv
 have hgr1 : w.grownBy W1 (some g) := by rw [hW1]; exact ⟨rfl,rfl,rfl,by simp,fun k hk _ => by first | exact heap_alloc_old w.drew _ k hk | exact heap_alloc_old w.drew _ hk⟩
 have hNg : g ≠ w.heap.size := by omega
 obtain ⟨W2,hW2⟩ : ∃ W2,W2 = W1.setCells w.heap.size (i * 3) [c0,c1,c2] := ⟨_,rfl⟩
 obtain ⟨R2,r1,r2,_⟩ := heap_setCells w.heap.size 32 [c0,c1,c2] (i * 3) W1 ROW hNb (by simp; omega)
 rw [← hW2] at r1
 have hOb2 : W2.heap[g]? = some (.cells cur 32 (0,0)) := by rw [hW2,heap_setCells_far _ _ _ _ _ hNg]; exact hOb
 have hcpA : ∀ ty dc,(Builtin.copy_ #[23,23] ty #[.slice (some ⟨w.heap.size,i * 3,none⟩) (n + 1 - i) dc,.slice (some ⟨vb,0,none⟩) 1 vc]).run Try.prog W1 = .ok (goInt (Nat.min 1 (n + 1 - i))) W2 := fun ty dc => by
  rw [hW2]
  exact run_copy3 W1 _ _ ty 32 w.heap.size (i * 3) (n + 1 - i) dc ⟨vb,0,none⟩ 1 vc [c0,c1,c2] hu26 hi71 (by simp only [Nat.min_def]; split <;> first | rfl | (exfalso; omega))
   (fun j v hj => by
    rw [Addr.add_lit,Nat.zero_add,cells_of_block hOv]
    exact hv3 j v hj) (fun j hj => by rw [cells_of_block hNb,Array.getElem?_eq_getElem (by simp at hj; omega)]; rfl) (fun j hj => nofreeze_of_block hNb _) h1v
 have hdl : (xs.drop (i * 3)).length = (n - i) * 3 := by rw [List.length_drop,hx]; omega
 have hcpB : ∀ W : World,W.heap[w.heap.size]? = some (.cells R2 32 (0,0)) → W.heap[g]? = some (.cells cur 32 (0,0)) → ∀ ty dc sc,(Builtin.copy_ #[23,23] ty #[.slice (some ⟨w.heap.size,(i + 1) * 3,none⟩) (n - i) dc,.slice (some ⟨g,i * 3,none⟩) (n - i) sc]).run Try.prog W = .ok (goInt (Nat.min (n - i) (n - i))) (W.setCells w.heap.size ((i + 1) * 3) (xs.drop (i * 3))) := fun W hWn hWg ty dc sc =>
  run_copy3 W _ _ ty 32 w.heap.size ((i + 1) * 3) (n - i) dc ⟨g,i * 3,none⟩ (n - i) sc (xs.drop (i * 3)) hu26 hi71 (by rw [hdl]; simp only [Nat.min_def]; split <;> omega)
   (fun j v hj => by
    rw [Addr.add_lit,cells_of_block hWg]
    rw [List.getElem?_drop] at hj
    rw [hcur _ (by have := (List.getElem?_eq_some_iff.1 hj).1; omega)]
    exact hj)
   (fun j hj => by rw [cells_of_block hWn,Array.getElem?_eq_getElem (by omega)]; rfl) (fun j hj => nofreeze_of_block hWn _) (fun v hv => h1 v (List.mem_of_mem_drop hv))
 have hcpB := hcpB W2.drew r1 hOb2
 have HF := Aside0.mk (grown_cells W1 w.heap.size i n G ROW xs [c0,c1,c2] hNb hRl hx hi hGn hpre rfl)
 have HX := Aside0.mk hx
 have HGm := Aside0.mk hGm
 have HGR := Aside0.mk hgr1
 have HW2 := Aside0.mk hW2
 have HBB := Aside0.mk hbase
 have hw1 : IntKind.i64.wrap ((i : Int) + 1) = (i : Int) + 1 := by rw [IntKind.wrap_i64]; omega
 have hw2 : IntKind.i64.wrap ((n : Int) + 1) = (n : Int) + 1 := by rw [IntKind.wrap_i64]; omega
 have hw3 : IntKind.i64.wrap ((n : Int) + 1 - (i : Int)) = (n : Int) + 1 - (i : Int) := by rw [IntKind.wrap_i64]; omega
 have hb1 : (0 : Int) ≤ (i : Int) + 1 := by omega
 have hin : i ≤ n := by omega
 have htn : ((i : Int) + 1).toNat = i + 1 := by omega
 have hb3 : (i : Int) ≤ (n : Int) := by omega
 have hGi : ¬ (G = i) := by omega
 have hGim : ¬ (G = i + 1) := by omega
 have hci : ¬ (n = i) := by omega
 have mixed : Try.prog.follows Departure.mixedOrders = true := by kernel_rfl
 clear hg hcs htake hv hv3 h1 h1v hbase hx hcur hi0 hz0 hzs hzb hi71 hbw hvw hkk hik hold hG hGm hROW hc3 hRl hpre hW1 hNb hOb hOv hgr1 hNg hW2 r1 r2 hOb2 hdl
 go_enter Try.func67,Try.ntmps67
 go_wp2_with (first
  | (at_builtin; refine Lib.wpList_append_run _ rfl _ _ _ _ rfl _ _ rfl rfl _ _ (hrz _) ?_)
  | (at_builtin; refine wpList_copy_runI _ rfl _ _ 23 23 rfl _ _ rfl rfl (hcpA _ _) ?_))
 go_region_law_o (refine step_copy_runI rfl _ _ 23 23 rfl _ _ (by simp [Act.eval,Act.put]) (by simp [Act.eval,Act.put]) (hcpB _ _ _) ?_)
 go_wp2
 go_ret
 obtain ⟨cs',q1,q2,q3⟩ := HF.out
 have k2 := grown_setCells w.heap.size [c0,c1,c2] (i * 3) W1
 rw [← HW2.out] at k2 q1
 have k3 := grown_setCells w.heap.size (xs.drop (i * 3)) ((i + 1) * 3) W2.drew
 refine ⟨_,rfl,⟨?_,.inr ⟨w.heap.size,G,cs',rfl,HBB.out,by rw [← drew_setCells]; exact q1,hGn,HGm.out,q2,q3⟩⟩,?_,rfl⟩
 ·have := HX.out
  simp
  omega
 ·have k1 := HGR.out
  exact ⟨(k3.os.trans k2.os).trans k1.os,(k3.tape.trans k2.tape).trans k1.tape,(k3.output.trans k2.output).trans k1.output,Nat.le_trans k1.size (Nat.le_trans k2.size k3.size),fun k hk hgk =>
   ((k3.block k (Nat.lt_of_lt_of_le hk (Nat.le_trans k1.size k2.size)) (by intro e; injection e with e; omega)).trans (k2.block k (Nat.lt_of_lt_of_le hk k1.size) (by intro e; injection e with e; omega))).trans (k1.block k hk hgk)⟩
/-- slices.Insert of one object, at Kd.R. -/
theorem ins_obj (base : Nat) (ok ok2 : Nat → Prop) (w0 w : World) (v v2 : Value) (i : Nat) (l : List S32) (y : S32) (HO : Kd.R k32 32 w base ok v l) (H2 : Kd.R k32 32 w base ok2 v2 [y]) (hne : v2.ownBlock ≠ v.ownBlock) (hi : i ≤ l.length) (hl : l.length ≤ 3518437208000) (hfresh : ∀ k,w.heap.size ≤ k → ok k) (hbase : base ≤ w.heap.size) (HB : Below base w0 w) :
  Calls Try.prog 67 #[v,.int .i64 i,v2] w fun e w' => ∃ v1,e = .returned v1 ∧ Kd.R k32 32 w' base ok v1 (l.take i ++ y :: l.drop i) ∧ Below base w0 w' ∧ w.grownBy w' v.ownBlock ∧ (v1.ownBlock = v.ownBlock ∨ ∃ b,v1.ownBlock = some b ∧ w.heap.size ≤ b) := by
 obtain ⟨hok,inner,hown,hr⟩ := HO
 obtain ⟨hok2,inner2,hown2,hr2⟩ := H2
 have hil : inner.length = l.length * 3 := hr.1
 have hil2 : inner2.length = 3 := hr2.1
 obtain ⟨c0,c1,c2,rfl⟩ : ∃ c0 c1 c2,inner2 = [c0,c1,c2] := by
  match inner2,hil2 with
  | [a,b,c],_ => exact ⟨a,b,c,rfl⟩
 have hM2 : k32.M w base (fun k => ok2 k ∧ some k ≠ v2.ownBlock) y [c0,c1,c2] := hr2.2 0 y rfl
 have hone2 : ∀ u ∈ [c0,c1,c2],u.oneCell' = true := fun u hu => k32.K_one (k32.K_of_M hM2) u hu
 have hone : ∀ u ∈ inner,u.oneCell' = true := by
  intro u hu
  obtain ⟨q,hq,rfl⟩ := List.mem_iff_getElem.1 hu
  have hql : q / 3 < l.length := by omega
  have hc := hr.2 (q / 3) _ (List.getElem?_eq_getElem hql)
  refine k32.K_one (k32.K_of_M hc) _ ?_
  rw [List.mem_iff_getElem?]
  refine ⟨q % 3,?_⟩
  show ((inner.drop (q / 3 * 3)).take 3)[q % 3]? = _
  rw [List.getElem?_take,if_pos (Nat.mod_lt _ (by omega)),List.getElem?_drop,show q / 3 * 3 + q % 3 = q by omega,List.getElem?_eq_getElem hq]
 rcases hown2.2 with ⟨rfl,h0⟩ | ⟨vb,vc,cv,rfl,hbv,hv,hnv,hcv,hsv,htv⟩
 ·exact absurd h0 (by simp)
 have hv3 : ∀ (j : Nat) (u : Value),[c0,c1,c2][j]? = some u → cv[j]? = some u := fun j u hj => by
  rw [← htv,List.getElem?_take] at hj
  split at hj
  ·rwa [Array.getElem?_toList] at hj
  ·cases hj
 have key : Calls Try.prog 67 #[v,.int .i64 i,.slice (some ⟨vb,0,none⟩) 1 vc] w fun e w' => ∃ v',e = .returned v' ∧ w'.ownsRow base 32 3 v' (l.length + 1) (inner.take (i * 3) ++ [c0,c1,c2] ++ inner.drop (i * 3)) ∧ w.grownBy w' v.ownBlock ∧ (v'.ownBlock = v.ownBlock ∨ ∃ b,v'.ownBlock = some b ∧ w.heap.size ≤ b) := by
  by_cases hin : i = l.length
  ·subst hin
   refine (ins_end base w v l.length vb inner c0 c1 c2 hown hbase cv vc hv hv3 hone2 hl).mono ?_
   rintro e w' ⟨v',rfl,h1,h2,h3⟩
   refine ⟨v',rfl,?_,h2,h3.imp id (fun h => ⟨_,h,Nat.le_refl _⟩)⟩
   rw [← hil,List.take_length,List.drop_length,List.append_nil]
   exact h1
  ·have hlt : i < l.length := by omega
   rcases hown.2 with ⟨rfl,h0⟩ | ⟨g,cap,cur,rfl,hbg,hg,hnc,hcm,hcs,htake⟩
   ·omega
   ·have hvg : vb ≠ g := fun e => hne (by simp [Value.ownBlock,e])
    by_cases hroom : l.length + 1 ≤ cap
    ·refine (ins_shift base w g i l.length cap vb cur inner c0 c1 c2 hbg hg hcm hcs htake cv vc hv hv3 hvg hlt hroom hone hone2).mono ?_
     rintro e w' ⟨rfl,h1,h2⟩
     exact ⟨_,rfl,h1,h2,.inl rfl⟩
    ·obtain rfl : cap = l.length := by omega
     refine (ins_grow base w g i l.length vb cur inner c0 c1 c2 hbase hg hcs htake cv vc hv hv3 hlt hone hone2 hl).mono ?_
     rintro e w' ⟨v',rfl,h1,h2,h3⟩
     exact ⟨_,rfl,h1,h2,.inr ⟨_,h3,Nat.le_refl _⟩⟩
 refine key.mono ?_
 rintro e w' ⟨v',rfl,h1,h2,h3⟩
 refine ⟨v',rfl,⟨?_,inner.take (i * 3) ++ [c0,c1,c2] ++ inner.drop (i * 3),?_,?_⟩,?_,h2,h3⟩
 ·intro k hk
  rcases h3 with h3 | ⟨b,hb,hle⟩
  ·exact hok k (by rw [← h3]; exact hk)
  ·rw [hb] at hk
   injection hk with hk
   subst hk
   exact hfresh _ hle
 ·have e : (l.take i ++ y :: l.drop i).length = l.length + 1 := by simp; omega
  rw [e]
  exact h1
 ·refine ⟨?_,?_⟩
  ·have e : (l.take i ++ y :: l.drop i).length = l.length + 1 := by simp; omega
   rw [e]
   show (inner.take (i * 3) ++ [c0,c1,c2] ++ inner.drop (i * 3)).length = (l.length + 1) * 3
   simp only [List.length_append,List.length_take,List.length_drop,List.length_cons,List.length_nil]
   omega
  ·intro j p hj
   have hseg : ∀ (q : Nat) (x : S32),l[q]? = some x → (inner.drop (q * 3)).take 3 = [.string x.f0,.int .i64 x.f1,.string x.f2] := fun q x hq => k32_openM (hr.2 q x hq)
   have hcc := k32_openM hM2
   show k32.M w' base (fun k => ok k ∧ some k ≠ v'.ownBlock) p (((inner.take (i * 3) ++ [c0,c1,c2] ++ inner.drop (i * 3)).drop (j * 3)).take 3)
   have e : ((inner.take (i * 3) ++ [c0,c1,c2] ++ inner.drop (i * 3)).drop (j * 3)).take 3 = [.string p.f0,.int .i64 p.f1,.string p.f2] := by
    have hlt3 : (inner.take (i * 3)).length = i * 3 := by rw [List.length_take]; omega
    by_cases h1 : j < i
    ·rw [List.getElem?_append_left (by rw [List.length_take]; omega),List.getElem?_take,if_pos h1] at hj
     rw [← hseg j p hj,List.append_assoc,List.drop_append_of_le_length (by omega),List.take_append_of_le_length (by rw [List.length_drop]; omega)]
     apply List.ext_getElem?
     intro t
     rw [List.getElem?_take,List.getElem?_take,List.getElem?_drop,List.getElem?_drop,List.getElem?_take]
     by_cases ht : t < 3
     ·rw [if_pos ht,if_pos ht,if_pos (by omega)]
     ·rw [if_neg ht,if_neg ht]
    ·rw [List.getElem?_append_right (by rw [List.length_take]; omega),List.length_take] at hj
     by_cases h2 : j = i
     ·subst h2
      rw [show j - min j l.length = 0 by omega] at hj
      obtain rfl : y = p := Option.some.inj hj
      rw [List.append_assoc,List.drop_append,List.drop_eq_nil_of_le (by omega),hlt3,Nat.sub_self,List.drop_zero,List.nil_append,← hcc]
      rfl
     ·rw [show j - min i l.length = (j - i - 1) + 1 by omega,List.getElem?_cons_succ,List.getElem?_drop] at hj
      rw [← hseg _ p hj,List.drop_append,List.drop_eq_nil_of_le (by rw [List.length_append,hlt3]; show i * 3 + 3 ≤ j * 3; omega),List.nil_append,List.length_append,hlt3,List.drop_drop]
      show (inner.drop (i * 3 + (j * 3 - (i * 3 + 3)))).take 3 = _
      rw [show i * 3 + (j * 3 - (i * 3 + 3)) = (i + (j - i - 1)) * 3 by omega]
   rw [e]
   exact k32_mkM _ _ _ p
 ·exact HB.grown h2 hbase (own_base hown)
section
variable {ops : Array Oper} {rest : List Oper} {o : Oper} {a : Act} {Q : Exit → Act → World → Prop}
/-- The call slices.Insert(s, i, x), x a literal: shaped as the append's step is. -/
theorem ins_step {w0 W : World} (base : Nat) (hgd : o.guard = none) (s j x : Operand) (ho : o.op = .call { callee := .value (.func 67),args := #[s,j,x],argTypes := #[23,3,23] })
  (i : Int) (v : Value) (xs : List S32) (p : S32) (cs : List Value) (ok : Nat → Prop) (hs : a.eval s = v) (hj : a.eval j = .int .i64 i) (hi : 0 ≤ i ∧ i ≤ xs.length) (hx : a.eval x = .slice (some ⟨W.heap.size,0,none⟩) 1 1) (hp : k32.M W base (fun _ => False) p cs) (hfresh : ∀ k,W.heap.size ≤ k → ok k)
  (HO : Kd.R k32 32 W base ok v xs) (HB : Below base w0 W) (hbase : base ≤ W.heap.size) (hl : xs.length ≤ 3518437208000)
  (h : ∀ v1 w1,Kd.R k32 32 w1 base ok v1 (xs.take i.toNat ++ p :: xs.drop i.toNat) → Below base w0 w1 → W.grownBy w1 v.ownBlock → (v1.ownBlock = v.ownBlock ∨ ∃ b,v1.ownBlock = some b ∧ W.heap.size ≤ b) → wpList Try.prog ops Q rest (a.put o.dst v1) w1) :
  wpList Try.prog ops Q (o :: rest) a (W.alloc (.cells cs.toArray 32)) := by
 have hcs : cs = [.string p.f0,.int .i64 p.f1,.string p.f2] := k32_openM hp
 have hown := World.ownsRow_lit (base := base) (e:=32) (size := 3) W cs.toArray 1 hbase (by simp [maxLen]) (by rw [hcs]; rfl)
 have h2 : Kd.R k32 32 (W.alloc (.cells cs.toArray 32)) base (fun _ => True) (.slice (some ⟨W.heap.size,0,none⟩) 1 1) [p] := by
  refine ⟨fun _ _ => trivial,cs,(by show (W.alloc (.cells cs.toArray 32)).ownsRow base 32 3 _ 1 cs; simpa using hown),by rw [hcs]; rfl,fun j q hq => ?_⟩
  have hj0 : j = 0 := by have := (List.getElem?_eq_some_iff.1 hq).1; simpa using this
  subst hj0
  obtain rfl : p = q := Option.some.inj hq
  rw [hcs]
  exact k32_mkM _ _ _ p
 have hsz : (W.alloc (.cells cs.toArray 32)).heap.size = W.heap.size + 1 := by simp
 have hne : (Value.slice (some ⟨W.heap.size,0,none⟩) 1 1).ownBlock ≠ v.ownBlock := fun e => by
  have := Kd.R_lt HO W.heap.size (by rw [← e]; simp [Value.ownBlock])
  omega
 have hc := ins_obj base ok (fun _ => True) w0 (W.alloc (.cells cs.toArray 32)) v (.slice (some ⟨W.heap.size,0,none⟩) 1 1) i.toNat xs p (Kd.R_alloc HO _) h2 hne (by omega) hl (fun k hk => hfresh k (by omega)) (by omega) (HB.alloc hbase _)
 rw [Int.toNat_of_nonneg hi.1] at hc
 refine goesL_ o.dst rfl hgd Try.func67 (by kernel_rfl) rfl _ ho (by simp [hs,hj,hx]; rfl) ?_
 refine hc.mono ?_
 rintro e w' ⟨v1,rfl,q1,q2,q3,q4⟩
 refine ⟨v1,rfl,h v1 w' q1 q2 ⟨q3.os,q3.tape,q3.output,by have := q3.size; omega,fun k hk hkn => (q3.block k (by omega) hkn).trans ?_⟩ ?_⟩
 ·exact (below_alloc (Below.refl W.heap.size W) _).block k hk
 ·rcases q4 with q4 | ⟨b,hb,hle⟩
  ·exact .inl q4
  ·exact .inr ⟨b,hb,by omega⟩
end

end Go.Proofs.Ytgkfemnfbkgeiaa.XFnStore
