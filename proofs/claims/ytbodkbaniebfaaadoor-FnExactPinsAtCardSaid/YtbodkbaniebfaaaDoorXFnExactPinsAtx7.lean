-- Printed by this session's own program wip/tools/xprint.py, which widens the kit's print. Not trusted: Lean checks it.
import Derived.Test.YtbodkbaniebfaaaDoorXFnExactPinsAtx0
import Derived.Test.YtbodkbaniebfaaaDoorXFnExactPinsAtx5
namespace Go.Proofs.YtbodkbaniebfaaaDoor.XFnExactPinsAt
open Go.RowKit Go.Proofs.YtbodkbaniebfaaaDoorW.PrintWords Go.Proofs.YtbodkbaniebfaaaDoorW.PrintLast Go.Proofs.YtbodkbaniebfaaaDoorW.PrintMore
attribute [local go_sem] max2_int min2_int max_two min_two max_three min_three max_four min_four   -- for this text's walks alone
set_option linter.unusedVariables false
set_option linter.unusedSimpArgs false

/-! ### impl_isNow: function 20 -/
def impl_isNow.f (a0 : Int) : Option (Bool) := (impl_within.f a0 0 101000).bind fun t185 => (some t185)
set_option maxHeartbeats 8000000 in
set_option maxRecDepth 100000 in
theorem impl_isNow.calls (a0 : Int) (r : Bool) (w : World) (h : impl_isNow.f a0 = some r) :
  Calls Tryd.prog 20 #[.int .i64 a0] w fun e w' => e = .returned (.bool r) ∧ Drawn0 w w' := by
 have H : ((impl_within.f a0 0 101000).bind fun t185 => (some t185)) = some r := h
 clear h
 replace H := Option.bind_eq_some_iff.mp H
 obtain ⟨t185,A20,H⟩ := H
 try dsimp only at H
 have A2 := Aside0.mk A20
 clear A20
 obtain rfl := Option.some.inj H
 go_enter Tryd.func20,Tryd.ntmps20
 go_wp2_with (first | ((with_reducible refine gate_callee (f:=31) rfl ?_); refine goesL_ (some 4) rfl rfl Tryd.func31 (by kernel_rfl) rfl #[.int .i64 a0,.int .i64 0,.int .i64 101000] rfl mA ?_; (with_reducible refine (impl_within.calls a0 0 101000 t185 _ A2.out).mono ?_); rintro e w' ⟨rfl,⟨nd,rfl⟩⟩; refine ⟨_,rfl,?_⟩))
 go_ret
 exact ⟨by first | rfl | (simp; done) | (simp [*]; done),by repeat (first | exact Drawn0.refl _ | apply Drawn0.step)⟩

/-! ### stringslite_HasPrefix: function 47 -/
def stringslite_HasPrefix.f (a0 : ByteArray) (a1 : ByteArray) : Option (Bool) := if (a0.size : Int) ≥ (a1.size : Int) then (if 0 ≤ (a1.size : Int) then (if (a1.size : Int) ≤ (a0.size : Int) then (some ((a0.extract 0 ((a1.size : Int) : Int).toNat).toList == a1.toList)) else (none)) else (none)) else (some false)
set_option maxHeartbeats 8000000 in
set_option maxRecDepth 100000 in
theorem stringslite_HasPrefix.calls (a0 : ByteArray) (a1 : ByteArray) (r : Bool) (w : World) (h : stringslite_HasPrefix.f a0 a1 = some r) :
  Calls Tryd.prog 47 #[.string a0,.string a1] w fun e w' => e = .returned (.bool r) ∧ Drawn0 w w' := by
 have H : (if (a0.size : Int) ≥ (a1.size : Int) then (if 0 ≤ (a1.size : Int) then (if (a1.size : Int) ≤ (a0.size : Int) then (some ((a0.extract 0 ((a1.size : Int) : Int).toNat).toList == a1.toList)) else (none)) else (none)) else (some false)) = some r := h
 clear h
 by_cases c3 : (a0.size : Int) ≥ (a1.size : Int)
 ·rw [if_pos c3] at H
  have c3b0 : decide ((a1.size : Int) ≤ (a0.size : Int)) = true := decide_eq_true c3
  have c3b1 : decide (a1.size ≤ a0.size) = true := decide_eq_true (Int.ofNat_le.mp c3)
  clear c3
  by_cases c4 : 0 ≤ (a1.size : Int)
  ·rw [if_pos c4] at H
   have c4b0 := eq_true c4
   have c4b1 : decide (0 ≤ (a1.size : Int)) = true := decide_eq_true c4
   clear c4
   by_cases c5 : (a1.size : Int) ≤ (a0.size : Int)
   ·rw [if_pos c5] at H
    have c5b0 := eq_true c5
    have c5b1 : decide ((a1.size : Int) ≤ (a0.size : Int)) = true := decide_eq_true c5
    clear c5
    obtain rfl := Option.some.inj H
    go_enter Tryd.func47,Tryd.ntmps47
    go_wp2
    go_ret
    exact ⟨by first | rfl | (simp; done) | (simp [*]; done),by repeat (first | exact Drawn0.refl _ | apply Drawn0.step)⟩
   ·rw [if_neg c5] at H
    exact absurd H (by simp)
  ·rw [if_neg c4] at H
   exact absurd H (by simp)
 ·rw [if_neg c3] at H
  have c3b0 : decide ((a1.size : Int) ≤ (a0.size : Int)) = false := decide_eq_false c3
  have c3b1 : decide (a1.size ≤ a0.size) = false := decide_eq_false (fun h => c3 (Int.ofNat_le.mpr h))
  clear c3
  obtain rfl := Option.some.inj H
  go_enter Tryd.func47,Tryd.ntmps47
  go_wp2
  go_ret
  exact ⟨by first | rfl | (simp; done) | (simp [*]; done),by repeat (first | exact Drawn0.refl _ | apply Drawn0.step)⟩

/-! ### strings_HasPrefix: function 43 -/
def strings_HasPrefix.f (a0 : ByteArray) (a1 : ByteArray) : Option (Bool) := (stringslite_HasPrefix.f a0 a1).bind fun t186 => (some t186)
set_option maxHeartbeats 8000000 in
set_option maxRecDepth 100000 in
theorem strings_HasPrefix.calls (a0 : ByteArray) (a1 : ByteArray) (r : Bool) (w : World) (h : strings_HasPrefix.f a0 a1 = some r) :
  Calls Tryd.prog 43 #[.string a0,.string a1] w fun e w' => e = .returned (.bool r) ∧ Drawn0 w w' := by
 have H : ((stringslite_HasPrefix.f a0 a1).bind fun t186 => (some t186)) = some r := h
 clear h
 replace H := Option.bind_eq_some_iff.mp H
 obtain ⟨t186,A30,H⟩ := H
 try dsimp only at H
 have A3 := Aside0.mk A30
 clear A30
 obtain rfl := Option.some.inj H
 go_enter Tryd.func43,Tryd.ntmps43
 go_wp2_with (first | ((with_reducible refine gate_callee (f:=47) rfl ?_); refine goesL_ (some 7) rfl rfl Tryd.func47 (by kernel_rfl) rfl #[.string a0,.string a1] rfl mA ?_; (with_reducible refine (stringslite_HasPrefix.calls a0 a1 t186 _ A3.out).mono ?_); rintro e w' ⟨rfl,⟨nd,rfl⟩⟩; refine ⟨_,rfl,?_⟩))
 go_ret
 exact ⟨by first | rfl | (simp; done) | (simp [*]; done),by repeat (first | exact Drawn0.refl _ | apply Drawn0.step)⟩

/-! ### impl_Store_keys: function 34 -/
def impl_Store_keys.l0 : Nat → ByteArray → List ByteArray → List (S51) → Int → Int → Option (List ByteArray)
 | 0,_,_,_,_,_ => none
 | k + 1,x1,x5,x10,x11,x12 => if x12 < x11 then (if 0 ≤ x12 then (if x12 < (x10.length : Int) then ((strings_HasPrefix.f ((rd_T51 x10 x12).f0) x1).bind fun t193 => (if t193 = true then (if x5.length < 8796093022208 then (impl_Store_keys.l0 k x1 (x5 ++ [(rd_T51 x10 x12).f0]) x10 x11 (wrap64 (x12 + 1))) else (none)) else (impl_Store_keys.l0 k x1 x5 x10 x11 (wrap64 (x12 + 1))))) else (none)) else (none)) else (some x5)
def impl_Store_keys.f (k : Nat) (l0_0 : List (S51)) (a0_1 : Int) (a1 : ByteArray) : Option (List ByteArray) := impl_Store_keys.l0 k a1 (([] : List ByteArray)) l0_0 (l0_0.length : Int) 0
theorem impl_Store_keys.mono_l : ∀ k,(∀ y0 y1 y2 y3 y4,LeO (impl_Store_keys.l0 k y0 y1 y2 y3 y4) (impl_Store_keys.l0 (k + 1) y0 y1 y2 y3 y4))
 | 0 => fun _ _ _ _ _ r h => by simp [impl_Store_keys.l0] at h
 | k + 1 => by
  have ih0 := impl_Store_keys.mono_l k
  ·intro y0 y1 y2 y3 y4
   unfold impl_Store_keys.l0
   repeat' first
   | (with_reducible exact ih0 _ _ _ _ _)
   | (with_reducible exact LeO.refl _)
   | (with_reducible exact LeO.none _)
   | (with_reducible refine LeO.ite ?_ ?_)
   | (with_reducible refine LeO.bind ?_ (fun _ => ?_))
   | exact ih0 _ _ _ _ _
   | exact LeO.none _
   | refine LeO.ite ?_ ?_
   | refine LeO.bind ?_ (fun _ => ?_)
theorem impl_Store_keys.mono : ∀ a0 a1 a2 k,LeO (impl_Store_keys.f k a0 a1 a2) (impl_Store_keys.f (k + 1) a0 a1 a2) := by
 intro a0 a1 a2 k
 have ih0 := impl_Store_keys.mono_l k
 unfold impl_Store_keys.f
 repeat' first
   | (with_reducible exact ih0 _ _ _ _ _)
   | (with_reducible exact LeO.refl _)
   | (with_reducible exact LeO.none _)
   | (with_reducible refine LeO.ite ?_ ?_)
   | (with_reducible refine LeO.bind ?_ (fun _ => ?_))
   | exact ih0 _ _ _ _ _
   | exact LeO.none _
   | refine LeO.ite ?_ ?_
   | refine LeO.bind ?_ (fun _ => ?_)
set_option maxHeartbeats 8000000 in
set_option maxRecDepth 100000 in
theorem impl_Store_keys.calls (k : Nat) (A0_0 : Option Addr) (c0_0 : Nat) (l0_0 : List (S51)) (a0_1 : Int) (a1 : ByteArray) (r : List ByteArray) (w : World) (hr0_0 : Kd.C k51 w A0_0 l0_0.length l0_0) (hc0_0 : l0_0.length ≤ c0_0) (h : impl_Store_keys.f k l0_0 a0_1 a1 = some r) :
  Calls Tryd.prog 34 #[.agg #[.slice A0_0 l0_0.length c0_0,.int .i64 a0_1],.string a1] w fun e w' => ∃ v0_ : Value,e = .returned (v0_) ∧ Kd.R Kd.string 9 w' w.heap.size (fun _ => True) v0_ r ∧ Below w.heap.size w w' := by
 have hu31 := Tryd.underlying31
 have hu51 := Tryd.underlying51
 have HR0_0 := Aside0.mk hr0_0
 have HC0_0 := Aside0.mk hc0_0
 clear hr0_0 hc0_0
 have HB := Aside0.mk (Below.refl w.heap.size w)
 have H : (impl_Store_keys.l0 k a1 (([] : List ByteArray)) l0_0 (l0_0.length : Int) 0) = some r := h
 clear h
 obtain ⟨y188,hy188⟩ : ∃ y_ : List ByteArray,y_ = (([] : List ByteArray)) := ⟨_,rfl⟩
 replace H : (impl_Store_keys.l0 k a1 y188 l0_0 (l0_0.length : Int) 0) = some r := by first | (rw [hy188]; with_reducible exact H) | (have H2_ := (Option.bind_some _ _).symm.trans H; rw [hy188]; with_reducible exact H2_) | (have H2_ := (Option.bind_some _ _).symm.trans H; with_reducible exact H2_) | with_reducible exact H | (rw [hy188]; exact H) | exact H
 have Ny188 := Aside0.mk hy188
 clear hy188
 have H' := Aside0.mk H
 clear H
 go_enter Tryd.func34,Tryd.ntmps34
 go_wp2_with (first | ((with_reducible refine gate_dst (N:=2) rfl ?_); refine box_event ?hg (N:=2) ?hd (cs := #[.slice A0_0 l0_0.length c0_0,.int .i64 a0_1]) (t:=31) ?hr ?_; (case hd => rfl); (case hg => rfl); (case hr => first | (go_simp; done) | (go_simp; rfl)); intro gb187 hg w3 hbox hb; have n0_ := Aside0.mk (below_step bA hb); have n1_ := Aside0.mk (hbox); have n2_ := Aside0.mk ((by rw [hg]; exact (below_size bA) : w.heap.size ≤ gb187)); have n3_ := Aside0.mk ((by rw [hg]; exact (below_size bA) : w.heap.size ≤ gb187)); clear HB; have HB := n0_; have BK187 := n1_; have GW187 := n2_; have GE187 := n3_; clear n0_ n1_ n2_ n3_; clear hb hbox hg) | ((with_reducible refine gate_dst (N:=8) rfl ?_); refine Kd.R_lit Kd.string _ 9 ?hg (N:=8) ?hd (xs := ([] : List ByteArray)) (inner := []) (ok := fun _ => True) (okp := fun _ => True) ?hr ?hp (fun _ hk => hk) trivial (Below.refl _ _) (Nat.le_refl _) (by simp) ?_; (case hd => rfl); (case hg => rfl); (case hr => first | (go_simp; done) | (go_simp; rfl)); (case hp => exact (Reps.none _ _)); intro v189 w4 ho5 hb hg_ hnew_; clear hg_ hnew_; (first | rw [← Ny188.out] at ho5 | (simp only [Int.reduceToNat] at ho5; rw [← Ny188.out] at ho5)); have n0_ := Aside0.mk (Kd.R_lower ho5 (below_size bA)); have n1_ := Aside0.mk (blk_below (g:=gb187) (o:=.cells #[.slice A0_0 l0_0.length c0_0,.int .i64 a0_1] 31 (0,0)) (kA BK187.out) hb); have n2_ := Aside0.mk (below_step bA hb); clear BK187; clear HB; have HO190 := n0_; have BK187 := n1_; have HB := n2_; clear n0_ n1_ n2_; clear hb ho5; have hcz6_0 : w4.cell? ⟨gb187,0,none⟩ = some (.slice A0_0 l0_0.length c0_0) := (blk_cell BK187.out 0).trans rfl; have hcz6_1 : w4.cell? ⟨gb187,1,none⟩ = some (.int .i64 a0_1) := (blk_cell BK187.out 1).trans rfl; have hfz6_0 := blk_frozen BK187.out 0; have hfz6_1 := blk_frozen BK187.out 1))
 go_loopg [5,12] k (fun kq v5 v12 w' => ∃ (x5_1 : List ByteArray) (x12_1 : Int),v12 = .int .i64 x12_1 ∧ Aside0 (impl_Store_keys.l0 kq a1 x5_1 l0_0 (l0_0.length : Int) x12_1 = some r) ∧ Aside0 (kq ≤ k) ∧ Aside0 (Kd.R Kd.string 9 w' w.heap.size (fun _ => True) v5 x5_1) ∧ Aside0 (w'.heap[gb187]? = some (.cells #[(.slice A0_0 l0_0.length c0_0),.int .i64 a0_1] 31 (0,0))) ∧ Aside0 (Below w.heap.size w w'))
 case atStart => exact ⟨(y188),(0),(by first | rfl | (simp; done) | (simp [*]; done)),H',⟨Nat.le_refl _⟩,⟨rA HO190.out⟩,⟨kA BK187.out⟩,⟨bA⟩⟩
 case round =>
  clear H'
  try clear p2
  try clear c3
  try clear hcz6_0
  try clear hcz6_1
  try clear hfz6_0
  try clear hfz6_1
  obtain ⟨x5_1,x12_1,rfl,HA,HK1,HO_5,BK187,HB⟩ := hrel
  cases gk with
  | zero => exact absurd HA.out (by simp [impl_Store_keys.l0])
  | succ k1 =>
   have H := HA.out
   clear HA
   simp only [impl_Store_keys.l0] at H
   by_cases c7 : x12_1 < (l0_0.length : Int)
   ·rw [if_pos c7] at H
    have c7b0 : decide (x12_1 < (l0_0.length : Int)) = true := decide_eq_true c7
    clear c7
    by_cases c8 : 0 ≤ x12_1
    ·rw [if_pos c8] at H
     have c8b0 : decide (0 ≤ x12_1) = true := decide_eq_true c8
     clear c8
     by_cases c9 : x12_1 < (l0_0.length : Int)
     ·rw [if_pos c9] at H
      have c9b0 : decide (x12_1 < (l0_0.length : Int)) = true := decide_eq_true c9
      clear c9
      replace H := Option.bind_eq_some_iff.mp H
      obtain ⟨t193,A100,H⟩ := H
      try dsimp only at H
      have A10 := Aside0.mk A100
      clear A100
      by_cases c11 : t193 = true
      ·subst c11
       rw [if_pos rfl] at H
       by_cases c12 : x5_1.length < 8796093022208
       ·rw [if_pos c12] at H
        have LMc12 := Aside0.mk c12
        clear c12
        obtain ⟨y194,hy194⟩ : ∃ y_ : List ByteArray,y_ = (x5_1 ++ [(rd_T51 l0_0 x12_1).f0]) := ⟨_,rfl⟩
        replace H : (impl_Store_keys.l0 k1 a1 y194 l0_0 (l0_0.length : Int) (wrap64 (x12_1 + 1))) = some r := by first | (rw [hy194]; with_reducible exact H) | (have H2_ := (Option.bind_some _ _).symm.trans H; rw [hy194]; with_reducible exact H2_) | (have H2_ := (Option.bind_some _ _).symm.trans H; with_reducible exact H2_) | with_reducible exact H | (rw [hy194]; exact H) | exact H
        have Ny194 := Aside0.mk hy194
        clear hy194
        have H' := Aside0.mk H
        clear H
        have p191 : 0 ≤ (x12_1 : Int) := of_decide_eq_true (by first | (with_reducible assumption) | assumption)
        have q191 : x12_1 < (l0_0.length : Int) := of_decide_eq_true (by first | (with_reducible assumption) | assumption)
        obtain ⟨ad191,e191,hx191_0,hx191_1,hx191_2⟩ := at_T51 HR0_0.out x12_1 p191 q191
        cases e191
        replace hx191_0 := (HB.out.cell (World.block_lt_of_cell? w _ hx191_0)).trans hx191_0
        replace hx191_1 := (HB.out.cell (World.block_lt_of_cell? w _ hx191_1)).trans hx191_1
        replace hx191_2 := (HB.out.cell (World.block_lt_of_cell? w _ hx191_2)).trans hx191_2
        replace p191 := eq_true p191
        replace q191 := eq_true q191
        go_wp2_with (first | ((with_reducible refine gate_dst (N:=7) rfl ?_); refine box_event ?hg (N:=7) ?hd (cs := #[.string (⟨#[]⟩ : ByteArray),.int .i64 0,.string (⟨#[]⟩ : ByteArray)]) (t:=51) ?hr ?_; (case hd => rfl); (case hg => rfl); (case hr => first | (go_simp; done) | (go_simp; rfl)); intro gb192 hg w13 hbox hb; have n0_ := Aside0.mk (Kd.R_below (rA HO_5.out) hb); have n1_ := Aside0.mk (blk_below (g:=gb187) (o:=.cells #[.slice (some ad191) l0_0.length c0_0,.int .i64 a0_1] 31 (0,0)) (kA BK187.out) hb); have n2_ := Aside0.mk (below_step bA hb); have n3_ := Aside0.mk (hbox); have n4_ := Aside0.mk ((by rw [hg]; exact (below_size bA) : w.heap.size ≤ gb192)); have n5_ := Aside0.mk ((by rw [hg]; exact (below_size bA) : w.heap.size ≤ gb192)); have n6_ := Aside0.mk ((by rw [hg]; exact Nat.ne_of_lt (blk_lt (g:=gb187) (o:=.cells #[.slice (some ad191) l0_0.length c0_0,.int .i64 a0_1] 31 (0,0)) (kA BK187.out)) : gb187 ≠ gb192)); have n7_ := Aside0.mk ((by rw [hg]; exact Nat.ne_of_gt (blk_lt (g:=gb187) (o:=.cells #[.slice (some ad191) l0_0.length c0_0,.int .i64 a0_1] 31 (0,0)) (kA BK187.out)) : gb192 ≠ gb187)); clear HO_5; clear BK187; clear HB; have HO_5 := n0_; have BK187 := n1_; have HB := n2_; have BK192 := n3_; have GW192 := n4_; have GE192 := n5_; have NB187_192 := n6_; have NB192_187 := n7_; clear n0_ n1_ n2_ n3_ n4_ n5_ n6_ n7_; clear hb hbox hg; have hnb14 := NB192_187.out; have hnc14 := NB187_192.out; have hcz15_0 : w13.cell? ⟨gb192,0,none⟩ = some (.string (⟨#[]⟩ : ByteArray)) := (blk_cell BK192.out 0).trans rfl; have hcz15_1 : w13.cell? ⟨gb192,1,none⟩ = some (.int .i64 0) := (blk_cell BK192.out 1).trans rfl; have hcz15_2 : w13.cell? ⟨gb192,2,none⟩ = some (.string (⟨#[]⟩ : ByteArray)) := (blk_cell BK192.out 2).trans rfl; have hfz15_0 := blk_frozen BK192.out 0; have hfz15_1 := blk_frozen BK192.out 1; have hfz15_2 := blk_frozen BK192.out 2) | ((with_reducible refine gate_callee (f:=43) rfl ?_); refine goesL_ (some 19) rfl rfl Tryd.func43 (by kernel_rfl) rfl #[.string ((rd_T51 l0_0 x12_1).f0),.string a1] rfl mA ?_; (with_reducible refine (strings_HasPrefix.calls ((rd_T51 l0_0 x12_1).f0) a1 true _ A10.out).mono ?_); rintro e w' ⟨rfl,⟨nd,rfl⟩⟩; refine ⟨_,rfl,?_⟩) | ((with_reducible refine gate_builtin (b:=.append) (xs := #[.tmp 20,.tmp 23]) rfl ?_); at_builtin; refine Kd.R_append Kd.string (w0 := w) w.heap.size rfl (.tmp 20) (.tmp 23) 26 9 (.string ⟨#[]⟩) 16 rfl Tryd.underlying26 info9 rfl (by decide) (by omega) u5 x5_1 ((rd_T51 l0_0 x12_1).f0) [.string ((rd_T51 l0_0 x12_1).f0)] (fun _ => True) (fun _ => False) rfl (by first | (go_simp; done) | (go_simp; rfl)) ?aP (fun _ hk => hk.elim) ?aF ?aO ?aB ?aS ?aL ?_; (case aP => exact rfl); (case aB => exact bA); (case aF => exact (fun _ _ => trivial)); (case aO => exact (by (with_reducible repeat (first | apply Kd.R_alloc | apply Kd.R_drewN | apply Kd.R_drew)); exact Kd.R_mono (Kd.R_far (p:=⟨gb192,2,none⟩) (Kd.R_far (p:=⟨gb192,1,none⟩) (Kd.R_far (p:=⟨gb192,0,none⟩) (Kd.R_types HO_5.out BK192.out (by decide)) (fun _ hk => hk.2) (.string ((rd_T51 l0_0 x12_1).f0))) (fun _ hk => hk.2) (.int .i64 ((rd_T51 l0_0 x12_1).f1))) (fun _ hk => hk.2) (.string ((rd_T51 l0_0 x12_1).f2))) (fun _ hk => trivial))); (case aS => exact (below_size bA)); (case aL => have := LMc12.out; omega); intro v195 w16 ho hb hg hat; rw [← Ny194.out] at ho; have n0_ := Aside0.mk (blk_grown (g:=gb187) (o:=.cells #[.slice (some ad191) l0_0.length c0_0,.int .i64 a0_1] 31 (0,0)) (kF BK187.out) hg (Kd.R_ne HO_5.out BK187.out (by decide))); have n1_ := Aside0.mk (blk_grown (g:=gb192) (o:=.cells #[.string ((rd_T51 l0_0 x12_1).f0),.int .i64 ((rd_T51 l0_0 x12_1).f1),.string ((rd_T51 l0_0 x12_1).f2)] 51 (0,0)) (by (with_reducible repeat (first | refine blk_drewN ?_ _ | refine blk_drew ?_ | refine blk_alloc ?_ _)); refine blk_put (cs := #[.string ((rd_T51 l0_0 x12_1).f0),.int .i64 ((rd_T51 l0_0 x12_1).f1),.string (⟨#[]⟩ : ByteArray)]) ?_ 2 _ rfl; (with_reducible repeat (first | refine blk_drewN ?_ _ | refine blk_drew ?_ | refine blk_alloc ?_ _)); refine blk_put (cs := #[.string ((rd_T51 l0_0 x12_1).f0),.int .i64 0,.string (⟨#[]⟩ : ByteArray)]) ?_ 1 _ rfl; (with_reducible repeat (first | refine blk_drewN ?_ _ | refine blk_drew ?_ | refine blk_alloc ?_ _)); refine blk_put (cs := #[.string (⟨#[]⟩ : ByteArray),.int .i64 0,.string (⟨#[]⟩ : ByteArray)]) ?_ 0 _ rfl; (with_reducible repeat (first | refine blk_drewN ?_ _ | refine blk_drew ?_ | refine blk_alloc ?_ _)); exact BK192.out) hg (Kd.R_ne HO_5.out BK192.out (by decide))); have n2_ := Aside0.mk (hb); have n3_ := Aside0.mk (ho); clear BK187; clear BK192; clear HB; clear HO_5; have BK187 := n0_; have BK192 := n1_; have HB := n2_; have HO196 := n3_; clear n0_ n1_ n2_ n3_; clear ho hb hg hat))
        go_roundg k1
        case measure => have := HK1.out; omega
        case rel => exact ⟨(y194),(wrap64 (x12_1 + 1)),(by first | rfl | (simp; done) | (simp [*]; done)),H',⟨by have := HK1.out; omega⟩,⟨rA HO196.out⟩,⟨kA BK187.out⟩,⟨bA⟩⟩
       ·rw [if_neg c12] at H
        exact absurd H (by simp)
      ·replace c11 := Bool.eq_false_iff.mpr c11
       subst c11
       rw [if_neg (show ¬ (false = true) by decide)] at H
       have H' := Aside0.mk H
       clear H
       have p191 : 0 ≤ (x12_1 : Int) := of_decide_eq_true (by first | (with_reducible assumption) | assumption)
       have q191 : x12_1 < (l0_0.length : Int) := of_decide_eq_true (by first | (with_reducible assumption) | assumption)
       obtain ⟨ad191,e191,hx191_0,hx191_1,hx191_2⟩ := at_T51 HR0_0.out x12_1 p191 q191
       cases e191
       replace hx191_0 := (HB.out.cell (World.block_lt_of_cell? w _ hx191_0)).trans hx191_0
       replace hx191_1 := (HB.out.cell (World.block_lt_of_cell? w _ hx191_1)).trans hx191_1
       replace hx191_2 := (HB.out.cell (World.block_lt_of_cell? w _ hx191_2)).trans hx191_2
       replace p191 := eq_true p191
       replace q191 := eq_true q191
       go_wp2_with (first | ((with_reducible refine gate_dst (N:=7) rfl ?_); refine box_event ?hg (N:=7) ?hd (cs := #[.string (⟨#[]⟩ : ByteArray),.int .i64 0,.string (⟨#[]⟩ : ByteArray)]) (t:=51) ?hr ?_; (case hd => rfl); (case hg => rfl); (case hr => first | (go_simp; done) | (go_simp; rfl)); intro gb192 hg w17 hbox hb; have n0_ := Aside0.mk (Kd.R_below (rA HO_5.out) hb); have n1_ := Aside0.mk (blk_below (g:=gb187) (o:=.cells #[.slice (some ad191) l0_0.length c0_0,.int .i64 a0_1] 31 (0,0)) (kA BK187.out) hb); have n2_ := Aside0.mk (below_step bA hb); have n3_ := Aside0.mk (hbox); have n4_ := Aside0.mk ((by rw [hg]; exact (below_size bA) : w.heap.size ≤ gb192)); have n5_ := Aside0.mk ((by rw [hg]; exact (below_size bA) : w.heap.size ≤ gb192)); have n6_ := Aside0.mk ((by rw [hg]; exact Nat.ne_of_lt (blk_lt (g:=gb187) (o:=.cells #[.slice (some ad191) l0_0.length c0_0,.int .i64 a0_1] 31 (0,0)) (kA BK187.out)) : gb187 ≠ gb192)); have n7_ := Aside0.mk ((by rw [hg]; exact Nat.ne_of_gt (blk_lt (g:=gb187) (o:=.cells #[.slice (some ad191) l0_0.length c0_0,.int .i64 a0_1] 31 (0,0)) (kA BK187.out)) : gb192 ≠ gb187)); clear HO_5; clear BK187; clear HB; have HO_5 := n0_; have BK187 := n1_; have HB := n2_; have BK192 := n3_; have GW192 := n4_; have GE192 := n5_; have NB187_192 := n6_; have NB192_187 := n7_; clear n0_ n1_ n2_ n3_ n4_ n5_ n6_ n7_; clear hb hbox hg; have hnb18 := NB192_187.out; have hnc18 := NB187_192.out; have hcz19_0 : w17.cell? ⟨gb192,0,none⟩ = some (.string (⟨#[]⟩ : ByteArray)) := (blk_cell BK192.out 0).trans rfl; have hcz19_1 : w17.cell? ⟨gb192,1,none⟩ = some (.int .i64 0) := (blk_cell BK192.out 1).trans rfl; have hcz19_2 : w17.cell? ⟨gb192,2,none⟩ = some (.string (⟨#[]⟩ : ByteArray)) := (blk_cell BK192.out 2).trans rfl; have hfz19_0 := blk_frozen BK192.out 0; have hfz19_1 := blk_frozen BK192.out 1; have hfz19_2 := blk_frozen BK192.out 2) | ((with_reducible refine gate_callee (f:=43) rfl ?_); refine goesL_ (some 19) rfl rfl Tryd.func43 (by kernel_rfl) rfl #[.string ((rd_T51 l0_0 x12_1).f0),.string a1] rfl mA ?_; (with_reducible refine (strings_HasPrefix.calls ((rd_T51 l0_0 x12_1).f0) a1 false _ A10.out).mono ?_); rintro e w' ⟨rfl,⟨nd,rfl⟩⟩; refine ⟨_,rfl,?_⟩))
       go_roundg k1
       case measure => have := HK1.out; omega
       case rel => exact ⟨(x5_1),(wrap64 (x12_1 + 1)),(by first | rfl | (simp; done) | (simp [*]; done)),H',⟨by have := HK1.out; omega⟩,⟨by (with_reducible repeat (first | apply Kd.R_alloc | apply Kd.R_drewN | apply Kd.R_drew)); exact Kd.R_mono (Kd.R_far (p:=⟨gb192,2,none⟩) (Kd.R_far (p:=⟨gb192,1,none⟩) (Kd.R_far (p:=⟨gb192,0,none⟩) (Kd.R_types HO_5.out BK192.out (by decide)) (fun _ hk => hk.2) (.string ((rd_T51 l0_0 x12_1).f0))) (fun _ hk => hk.2) (.int .i64 ((rd_T51 l0_0 x12_1).f1))) (fun _ hk => hk.2) (.string ((rd_T51 l0_0 x12_1).f2))) (fun _ hk => trivial)⟩,⟨kF BK187.out⟩,⟨bA⟩⟩
     ·rw [if_neg c9] at H
      exact absurd H (by simp)
    ·rw [if_neg c8] at H
     exact absurd H (by simp)
   ·rw [if_neg c7] at H
    have c7b0 : decide (x12_1 < (l0_0.length : Int)) = false := decide_eq_false c7
    clear c7
    obtain rfl := Option.some.inj H
    go_wp2
    go_ret
    exact ⟨_,by first | rfl | (simp only [i64_w,i32_w] <;> rfl) | (simp [errW_none,errW_some] <;> rfl) | (simp [*,errW_none,errW_some] <;> rfl),rA HO_5.out,bA⟩

/-! ### impl_Store_find: function 44 (by hand) -/
def cmpK (key : ByteArray) (x : S51) : Int := Lib.compareBytes x.f0.data.toList key.data.toList
def lowK (l : List S51) (key : ByteArray) (i : Nat) : Bool := decide (cmpK key (l.getD i z51) < 0)
def cntK (l : List S51) (key : ByteArray) : Nat := l.countP (fun x => decide (cmpK key x < 0))
def hasK (l : List S51) (key : ByteArray) : Bool := decide (cntK l key < l.length) && decide (cmpK key (l.getD (cntK l key) z51) = 0)
def monoK (l : List S51) (key : ByteArray) : Bool := (List.range l.length).all fun b => !(lowK l key b) || (List.range b).all fun a => lowK l key a
theorem monoK_at {l : List S51} {key : ByteArray} (h : monoK l key = true) {a b : Nat} (hab : a ≤ b) (hb : b < l.length) (hl : lowK l key b = true) : lowK l key a = true := by
 unfold monoK at h
 rw [List.all_eq_true] at h
 have := h b (List.mem_range.2 hb)
 rw [hl] at this
 rw [Bool.not_true,Bool.false_or,List.all_eq_true] at this
 rcases Nat.eq_or_lt_of_le hab with rfl | hlt
 ·exact hl
 ·exact this a (List.mem_range.2 hlt)
theorem countP_cut {α : Type} (p : α → Bool) (d : α) : ∀ (l : List α) (i : Nat),i ≤ l.length → (∀ t,t < i → p (l.getD t d) = true) → (∀ t,i ≤ t → t < l.length → p (l.getD t d) = false) → l.countP p = i
 | [],i,hi,_,_ => by simp at hi; simp [hi]
 | a :: r,0,_,_,h2 => by
  rw [List.countP_eq_zero]
  intro x hx
  obtain ⟨t,ht,rfl⟩ := List.getElem_of_mem hx
  have := h2 t (Nat.zero_le _) ht
  rw [List.getD_eq_getElem?_getD,List.getElem?_eq_getElem ht] at this
  simpa using this
 | a :: r,i + 1,hi,h1,h2 => by
  have ha : p a = true := by simpa using h1 0 (Nat.succ_pos _)
  rw [List.countP_cons_of_pos ha,countP_cut p d r i (by simpa using hi) (fun t ht => by simpa using h1 (t + 1) (by omega)) (fun t h3 h4 => by simpa using h2 (t + 1) (by omega) (by simpa using h4))]
theorem find_cmp (x0 : ByteArray) (x1 : Int) (x2 : ByteArray) (key : ByteArray) (W : World) : Calls Tryd.prog 49 #[.agg #[.string x0,.int .i64 x1,.string x2],.string key] W fun e w' => e = .returned (.int .i64 (cmpK key ⟨x0,x1,x2⟩)) ∧ Below W.heap.size W w' := by
 unfold cmpK
 have HB := Aside0.mk (Below.refl W.heap.size W)
 go_enter Tryd.func49,Tryd.ntmps49
 go_wp2_with (go_at_call 50; refine (Tryd.strings_Compare _ _ _).mono ?_; rintro e w' ⟨rfl,rfl⟩)
 go_ret
 exact ⟨rfl,by repeat (first | (with_reducible exact HB.out) | apply below_alloc | apply pw_below_drewN | apply below_drew1)⟩
set_option maxHeartbeats 4000000 in
set_option maxRecDepth 100000 in
theorem find_bs (A0 : Option Addr) (c0 : Nat) (l0 : List S51) (key : ByteArray) (w : World) (hr0 : Kd.C k51 w A0 l0.length l0) (hsz : l0.length ≤ 140737488351232) (hm : monoK l0 key = true) :
  Calls Tryd.prog 48 #[.slice A0 l0.length c0,.string key,.func (.func 49) #[] #[]] w fun e w' =>
   e = .returned (.tuple #[.int .i64 (cntK l0 key : Nat),.bool (hasK l0 key)]) ∧ Below w.heap.size w w' := by
 have HR := Aside0.mk hr0
 have M := Aside0.mk hm
 have S0 := Aside0.mk (Below.refl w.heap.size w)
 have u44 := Tryd.underlying51
 clear hr0 hm
 generalize hcnt : cntK l0 key = cnt
 have CN := Aside0.mk hcnt
 clear hcnt
 generalize hfin : hasK l0 key = fin
 have FIN := Aside0.mk hfin
 clear hfin
 go_enter Tryd.func48,Tryd.ntmps48
 go_wp2
 go_loopg [9,10] l0.length (fun kx s9 s10 wr => ∃ lo hi : Nat,s9 = .int .i64 lo ∧ s10 = .int .i64 hi ∧ lo ≤ hi ∧ hi ≤ l0.length ∧ hi - lo ≤ kx ∧ Aside0 (Below w.heap.size w wr) ∧ Aside0 ((∀ t,t < lo → lowK l0 key t = true) ∧ (∀ t,hi ≤ t → t < l0.length → lowK l0 key t = false)))
 case atStart => exact ⟨0,l0.length,rfl,rfl,Nat.zero_le _,Nat.le_refl _,by omega,S0,⟨fun t ht => absurd ht (Nat.not_lt_zero _),fun t h1 h2 => by omega⟩⟩
 case round =>
  clear S0
  obtain ⟨lo,hi,rfl,rfl,hlh,hin,hg,HB,I⟩ := hrel
  by_cases hlt : lo < hi
  ·have p0 : 0 ≤ ((lo : Int) + (hi : Int)) / 2 := by omega
   have q0 : ((lo : Int) + (hi : Int)) / 2 < (l0.length : Int) := by omega
   obtain ⟨ad,ea,h0,h1,h2⟩ := at_T51 HR.out (((lo : Int) + (hi : Int)) / 2) p0 q0
   cases ea
   replace h0 := (HB.out.cell (World.block_lt_of_cell? w _ h0)).trans h0
   replace h1 := (HB.out.cell (World.block_lt_of_cell? w _ h1)).trans h1
   replace h2 := (HB.out.cell (World.block_lt_of_cell? w _ h2)).trans h2
   have eN : (((lo : Int) + (hi : Int)) / 2).toNat = (lo + hi) / 2 := by omega
   rw [eN] at h0 h1 h2
   generalize hy : rd_T51 l0 (((lo : Int) + (hi : Int)) / 2) = y at h0 h1 h2
   have Y : Aside0 (l0.getD ((lo + hi) / 2) z51 = y) := ⟨by rw [← hy]; unfold rd_T51; rw [eN]⟩
   clear hy eN
   have hc := fun W => find_cmp y.f0 y.f1 y.f2 key W
   have hyd : (⟨y.f0,y.f1,y.f2⟩ : S51) = y := rfl
   rw [hyd] at hc
   clear hyd
   have HC := Aside0.mk hc
   clear hc
   by_cases hyx : cmpK key y < 0
   ·go_wp2_with (go_at_call 49; refine (HC.out _).mono ?_; rintro e w' ⟨rfl,hb⟩; have HB2 := Aside0.mk (HB.out.trans (hb.mono HB.out.size) : Below w.heap.size w w'); clear hb)
    go_roundg (hi - ((lo + hi) / 2 + 1))
    case measure => omega
    case rel =>
     have I2 : Aside0 ((∀ t,t < (lo + hi) / 2 + 1 → lowK l0 key t = true) ∧ (∀ t,hi ≤ t → t < l0.length → lowK l0 key t = false)) := ⟨fun t ht => monoK_at M.out (show t ≤ (lo + hi) / 2 by omega) (by omega) (by unfold lowK; rw [Y.out]; exact decide_eq_true hyx),I.out.2⟩
     exact ⟨(lo + hi) / 2 + 1,hi,by rw [show ((lo : Int) + (hi : Int)) / 2 + 1 = (((lo + hi) / 2 + 1 : Nat) : Int) by omega],rfl,by omega,hin,Nat.le_refl _,HB2,I2⟩
   ·go_wp2_with (go_at_call 49; refine (HC.out _).mono ?_; rintro e w' ⟨rfl,hb⟩; have HB2 := Aside0.mk (HB.out.trans (hb.mono HB.out.size) : Below w.heap.size w w'); clear hb)
    go_roundg ((lo + hi) / 2 - lo)
    case measure => omega
    case rel =>
     have I2 : Aside0 ((∀ t,t < lo → lowK l0 key t = true) ∧ (∀ t,(lo + hi) / 2 ≤ t → t < l0.length → lowK l0 key t = false)) := ⟨I.out.1,fun t ht htn => by
      cases hq : lowK l0 key t with
      | false => rfl
      | true =>
       have := monoK_at M.out ht htn hq
       unfold lowK at this
       rw [Y.out] at this
       have := of_decide_eq_true this
       omega⟩
     exact ⟨lo,(lo + hi) / 2,rfl,by rw [show ((lo : Int) + (hi : Int)) / 2 = (((lo + hi) / 2 : Nat) : Int) by omega],by omega,by omega,Nat.le_refl _,HB2,I2⟩
  ·obtain rfl : hi = lo := by omega
   have ec : cnt = hi := CN.out.symm.trans (countP_cut _ z51 l0 hi hin (fun t ht => I.out.1 t ht) (fun t h3 h4 => I.out.2 t h3 h4))
   clear I M
   subst ec
   by_cases hn : cnt < l0.length
   ·have p0 : 0 ≤ (cnt : Int) := by omega
    have q0 : (cnt : Int) < (l0.length : Int) := by omega
    obtain ⟨ad,ea,h0,h1,h2⟩ := at_T51 HR.out (cnt : Int) p0 q0
    cases ea
    replace h0 := (HB.out.cell (World.block_lt_of_cell? w _ h0)).trans h0
    replace h1 := (HB.out.cell (World.block_lt_of_cell? w _ h1)).trans h1
    replace h2 := (HB.out.cell (World.block_lt_of_cell? w _ h2)).trans h2
    rw [Int.toNat_natCast] at h0 h1 h2
    generalize hy : rd_T51 l0 (cnt : Int) = y at h0 h1 h2
    have Y : Aside0 (l0.getD cnt z51 = y) := ⟨by rw [← hy]; unfold rd_T51; rw [Int.toNat_natCast]⟩
    clear hy
    have hc := fun W => find_cmp y.f0 y.f1 y.f2 key W
    have hyd : (⟨y.f0,y.f1,y.f2⟩ : S51) = y := rfl
    rw [hyd] at hc
    clear hyd
    have HC := Aside0.mk hc
    clear hc
    have F2 : Aside0 (fin = decide (cmpK key y = 0)) := ⟨by rw [← FIN.out]; unfold hasK; rw [CN.out,Y.out,decide_eq_true hn,Bool.true_and]⟩
    by_cases hyx : cmpK key y = 0
    ·go_wp2_with (go_at_call 49; refine (HC.out _).mono ?_; rintro e w' ⟨rfl,hb⟩; have HB2 := Aside0.mk (HB.out.trans (hb.mono HB.out.size) : Below w.heap.size w w'); clear hb)
     go_ret2
     exact ⟨by rw [F2.out]; simp [hyx],HB2.out⟩
    ·go_wp2_with (go_at_call 49; refine (HC.out _).mono ?_; rintro e w' ⟨rfl,hb⟩; have HB2 := Aside0.mk (HB.out.trans (hb.mono HB.out.size) : Below w.heap.size w w'); clear hb)
     go_ret2
     exact ⟨by rw [F2.out]; simp [hyx],HB2.out⟩
   ·have F2 : Aside0 (fin = false) := ⟨by rw [← FIN.out]; unfold hasK; rw [CN.out,decide_eq_false hn,Bool.false_and]⟩
    go_wp2
    go_ret2
    exact ⟨by rw [F2.out]; simp [hn],HB.out⟩
def impl_Store_find.f (l0 : List S51) (a1 : Int) (a2 : ByteArray) : Option (Int × Bool) := if l0.length ≤ 140737488351232 ∧ monoK l0 a2 = true then some ((cntK l0 a2 : Nat),hasK l0 a2) else none
set_option maxHeartbeats 2000000 in
theorem impl_Store_find.calls (A0 : Option Addr) (c0 : Nat) (l0 : List S51) (a1 : Int) (a2 : ByteArray) (r1 : Int) (r2 : Bool) (w : World) (hr0 : Kd.C k51 w A0 l0.length l0) (hc0 : l0.length ≤ c0) (h : impl_Store_find.f l0 a1 a2 = some (r1,r2)) :
  Calls Tryd.prog 44 #[.agg #[.slice A0 l0.length c0,.int .i64 a1],.string a2] w fun e w' => e = .returned (.tuple #[.int .i64 r1,.bool r2]) ∧ Below w.heap.size w w' := by
 unfold impl_Store_find.f at h
 split at h
 ·rename_i hb
  obtain ⟨rfl,rfl⟩ := Prod.mk.inj (Option.some.inj h)
  have hcon := Aside0.mk (fun W (hW : Below w.heap.size w W) => find_bs A0 c0 l0 a2 W (Kd.C_below hr0 hW) hb.1 hb.2)
  clear hr0 hc0 h hb
  generalize hasK l0 a2 = q at hcon ⊢
  generalize (cntK l0 a2 : Int) = n at hcon ⊢
  generalize l0.length = m at hcon ⊢
  have HB := Aside0.mk (Below.refl w.heap.size w)
  go_enter Tryd.func44,Tryd.ntmps44
  go_wp2_with (go_at_call 48; refine (hcon.out _ (by repeat (first | (with_reducible exact HB.out) | apply below_alloc | apply pw_below_drewN | apply below_drew1))).mono ?_; rintro e w' ⟨rfl,hb⟩; have HB2 := Aside0.mk hb; clear hb)
  go_ret2
  exact ⟨rfl,Below.trans (by repeat (first | (with_reducible exact HB.out) | apply below_alloc | apply pw_below_drewN | apply below_drew1)) (HB2.out.mono (by first | exact Nat.le_refl _ | exact HB.out.size | (simp; done) | (simp; omega)))⟩
 ·cases h

/-! ### impl_Store_get: function 36 -/
def impl_Store_get.f (l0_0 : List (S51)) (a0_1 : Int) (a1 : ByteArray) : Option (ByteArray × Bool) := (impl_Store_find.f l0_0 a0_1 a1).bind fun bt198 => (if bt198.2 = true then (if 0 ≤ bt198.1 then (if bt198.1 < (l0_0.length : Int) then (some ((rd_T51 l0_0 bt198.1).f2,true)) else (none)) else (none)) else (some ((⟨#[]⟩ : ByteArray),false)))
set_option maxHeartbeats 8000000 in
set_option maxRecDepth 100000 in
theorem impl_Store_get.calls (A0_0 : Option Addr) (c0_0 : Nat) (l0_0 : List (S51)) (a0_1 : Int) (a1 : ByteArray) (r1 : ByteArray) (r2 : Bool) (w : World) (hr0_0 : Kd.C k51 w A0_0 l0_0.length l0_0) (hc0_0 : l0_0.length ≤ c0_0) (h : impl_Store_get.f l0_0 a0_1 a1 = some (r1,r2)) :
  Calls Tryd.prog 36 #[.agg #[.slice A0_0 l0_0.length c0_0,.int .i64 a0_1],.string a1] w fun e w' => e = .returned (.tuple #[.string r1,.bool r2]) ∧ Below w.heap.size w w' := by
 have hu31 := Tryd.underlying31
 have HR0_0 := Aside0.mk hr0_0
 have HC0_0 := Aside0.mk hc0_0
 clear hr0_0 hc0_0
 have HB := Aside0.mk (Below.refl w.heap.size w)
 have H : ((impl_Store_find.f l0_0 a0_1 a1).bind fun bt198 => (if bt198.2 = true then (if 0 ≤ bt198.1 then (if bt198.1 < (l0_0.length : Int) then (some ((rd_T51 l0_0 bt198.1).f2,true)) else (none)) else (none)) else (some ((⟨#[]⟩ : ByteArray),false)))) = some (r1,r2) := h
 clear h
 replace H := Option.bind_eq_some_iff.mp H
 obtain ⟨⟨t198,t199⟩,A30,H⟩ := H
 try dsimp only at H
 have A3 := Aside0.mk A30
 clear A30
 by_cases c4 : t199 = true
 ·subst c4
  rw [if_pos rfl] at H
  by_cases c5 : 0 ≤ t198
  ·rw [if_pos c5] at H
   have c5b0 : decide (0 ≤ t198) = true := decide_eq_true c5
   clear c5
   by_cases c6 : t198 < (l0_0.length : Int)
   ·rw [if_pos c6] at H
    have c6b0 : decide (t198 < (l0_0.length : Int)) = true := decide_eq_true c6
    clear c6
    simp only [Option.some.injEq,Prod.mk.injEq] at H
    obtain ⟨rfl,rfl⟩ := H
    go_enter Tryd.func36,Tryd.ntmps36
    go_wp2_with (first | ((with_reducible refine gate_dst (N:=2) rfl ?_); refine box_event ?hg (N:=2) ?hd (cs := #[.slice A0_0 l0_0.length c0_0,.int .i64 a0_1]) (t:=31) ?hr ?_; (case hd => rfl); (case hg => rfl); (case hr => first | (go_simp; done) | (go_simp; rfl)); intro gb197 hg w7 hbox hb; have n0_ := Aside0.mk (below_step bA hb); have n1_ := Aside0.mk (hbox); have n2_ := Aside0.mk ((by rw [hg]; exact (below_size bA) : w.heap.size ≤ gb197)); have n3_ := Aside0.mk ((by rw [hg]; exact (below_size bA) : w.heap.size ≤ gb197)); clear HB; have HB := n0_; have BK197 := n1_; have GW197 := n2_; have GE197 := n3_; clear n0_ n1_ n2_ n3_; clear hb hbox hg; have hcz8_0 : w7.cell? ⟨gb197,0,none⟩ = some (.slice A0_0 l0_0.length c0_0) := (blk_cell BK197.out 0).trans rfl; have hcz8_1 : w7.cell? ⟨gb197,1,none⟩ = some (.int .i64 a0_1) := (blk_cell BK197.out 1).trans rfl; have hfz8_0 := blk_frozen BK197.out 0; have hfz8_1 := blk_frozen BK197.out 1) | ((with_reducible refine gate_callee (f:=44) rfl ?_); refine goesL_ (some 11) rfl rfl Tryd.func44 (by kernel_rfl) rfl #[.agg #[.slice A0_0 l0_0.length c0_0,.int .i64 a0_1],.string a1] rfl mA ?_; (with_reducible refine (impl_Store_find.calls _ _ l0_0 a0_1 a1 t198 true _ ?side1 ?side2 A3.out).mono ?_); (case side1 => repeat (first | exact (Kd.C_below HR0_0.out HB.out) | (with_reducible refine Kd.C_alloc ?_ _) | (with_reducible refine Kd.C_drewN ?_ _) | (with_reducible refine Kd.C_drew ?_))); (case side2 => exact HC0_0.out); rintro e w9 ⟨rfl,hb⟩; refine ⟨_,rfl,?_⟩; have n0_ := Aside0.mk (blk_below (g:=gb197) (o:=.cells #[.slice A0_0 l0_0.length c0_0,.int .i64 a0_1] 31 (0,0)) (kA BK197.out) hb); have n1_ := Aside0.mk (below_step bA hb); clear BK197; clear HB; have BK197 := n0_; have HB := n1_; clear n0_ n1_; (try clear hb); (try clear hb2); (try clear hk); (try clear hi); have hcz10_0 : w9.cell? ⟨gb197,0,none⟩ = some (.slice A0_0 l0_0.length c0_0) := (blk_cell BK197.out 0).trans rfl; have hcz10_1 : w9.cell? ⟨gb197,1,none⟩ = some (.int .i64 a0_1) := (blk_cell BK197.out 1).trans rfl; have hfz10_0 := blk_frozen BK197.out 0; have hfz10_1 := blk_frozen BK197.out 1; have p200 : 0 ≤ (t198 : Int) := of_decide_eq_true (by first | (with_reducible assumption) | assumption); have q200 : t198 < (l0_0.length : Int) := of_decide_eq_true (by first | (with_reducible assumption) | assumption); obtain ⟨ad200,e200,hx200_0,hx200_1,hx200_2⟩ := at_T51 HR0_0.out t198 p200 q200; cases e200; replace hx200_0 := (HB.out.cell (World.block_lt_of_cell? w _ hx200_0)).trans hx200_0; replace hx200_1 := (HB.out.cell (World.block_lt_of_cell? w _ hx200_1)).trans hx200_1; replace hx200_2 := (HB.out.cell (World.block_lt_of_cell? w _ hx200_2)).trans hx200_2; replace p200 := eq_true p200; replace q200 := eq_true q200))
    go_ret2
    exact ⟨by first | rfl | (simp [errW_none,errW_some] <;> rfl) | (simp [*,errW_none,errW_some] <;> rfl),bA⟩
   ·rw [if_neg c6] at H
    exact absurd H (by simp)
  ·rw [if_neg c5] at H
   exact absurd H (by simp)
 ·replace c4 := Bool.eq_false_iff.mpr c4
  subst c4
  rw [if_neg (show ¬ (false = true) by decide)] at H
  simp only [Option.some.injEq,Prod.mk.injEq] at H
  obtain ⟨rfl,rfl⟩ := H
  go_enter Tryd.func36,Tryd.ntmps36
  go_wp2_with (first | ((with_reducible refine gate_dst (N:=2) rfl ?_); refine box_event ?hg (N:=2) ?hd (cs := #[.slice A0_0 l0_0.length c0_0,.int .i64 a0_1]) (t:=31) ?hr ?_; (case hd => rfl); (case hg => rfl); (case hr => first | (go_simp; done) | (go_simp; rfl)); intro gb197 hg w11 hbox hb; have n0_ := Aside0.mk (below_step bA hb); have n1_ := Aside0.mk (hbox); have n2_ := Aside0.mk ((by rw [hg]; exact (below_size bA) : w.heap.size ≤ gb197)); have n3_ := Aside0.mk ((by rw [hg]; exact (below_size bA) : w.heap.size ≤ gb197)); clear HB; have HB := n0_; have BK197 := n1_; have GW197 := n2_; have GE197 := n3_; clear n0_ n1_ n2_ n3_; clear hb hbox hg; have hcz12_0 : w11.cell? ⟨gb197,0,none⟩ = some (.slice A0_0 l0_0.length c0_0) := (blk_cell BK197.out 0).trans rfl; have hcz12_1 : w11.cell? ⟨gb197,1,none⟩ = some (.int .i64 a0_1) := (blk_cell BK197.out 1).trans rfl; have hfz12_0 := blk_frozen BK197.out 0; have hfz12_1 := blk_frozen BK197.out 1) | ((with_reducible refine gate_callee (f:=44) rfl ?_); refine goesL_ (some 11) rfl rfl Tryd.func44 (by kernel_rfl) rfl #[.agg #[.slice A0_0 l0_0.length c0_0,.int .i64 a0_1],.string a1] rfl mA ?_; (with_reducible refine (impl_Store_find.calls _ _ l0_0 a0_1 a1 t198 false _ ?side1 ?side2 A3.out).mono ?_); (case side1 => repeat (first | exact (Kd.C_below HR0_0.out HB.out) | (with_reducible refine Kd.C_alloc ?_ _) | (with_reducible refine Kd.C_drewN ?_ _) | (with_reducible refine Kd.C_drew ?_))); (case side2 => exact HC0_0.out); rintro e w13 ⟨rfl,hb⟩; refine ⟨_,rfl,?_⟩; have n0_ := Aside0.mk (blk_below (g:=gb197) (o:=.cells #[.slice A0_0 l0_0.length c0_0,.int .i64 a0_1] 31 (0,0)) (kA BK197.out) hb); have n1_ := Aside0.mk (below_step bA hb); clear BK197; clear HB; have BK197 := n0_; have HB := n1_; clear n0_ n1_; (try clear hb); (try clear hb2); (try clear hk); (try clear hi)))
  go_ret2
  exact ⟨by first | rfl | (simp [errW_none,errW_some] <;> rfl) | (simp [*,errW_none,errW_some] <;> rfl),bA⟩

/-! ### strconv_Itoa: function 46 (by hand) -/
def strconv_Itoa.f (a0 : Int) : Option ByteArray := if -9223372036854775808 ≤ a0 ∧ a0 ≤ 9223372036854775807 then some ⟨(Lib.itoa a0).toArray⟩ else none
theorem strconv_Itoa.calls (a0 : Int) (r : ByteArray) (w : World) (hV : Vars w) (h : strconv_Itoa.f a0 = some r) :
  Calls Tryd.prog 46 #[.int .i64 a0] w fun e w' => e = .returned (.string r) ∧ Below w.heap.size w w' := by
 unfold strconv_Itoa.f at h
 split at h
 ·rename_i hb
  obtain rfl := Option.some.inj h
  exact (Tryd.strconv_Itoa a0 hb.1 hb.2 w hV.tab).mono fun e w' ⟨he,k,os,hw⟩ => ⟨he,hw ▸ below_grow_ w k os⟩
 ·cases h

/-! ### impl_number: function 37 (by hand) -/
def strI (n : Int) : ByteArray := ⟨(Lib.itoa n).toArray⟩
def numB (s : ByteArray) : Int × Bool := match Lib.atoiAll s.data.toList with
 | .ok v => (v,((strI v).toList == s.toList) && (decide (-999999999999999999 ≤ v) && decide (v ≤ 999999999999999999)))
 | .range => (Lib.atoiSat s.data.toList,false)
 | _ => (0,false)
def impl_number.f (a0 : ByteArray) : Option (Int × Bool) := if a0.size ≤ 281474976710656 then some (numB a0) else none
set_option maxHeartbeats 8000000 in
set_option maxRecDepth 100000 in
theorem impl_number.calls (a0 : ByteArray) (r1 : Int) (r2 : Bool) (w : World) (hV : Vars w) (h : impl_number.f a0 = some (r1,r2)) :
  Calls Tryd.prog 37 #[.string a0] w fun e w' => e = .returned (.tuple #[.int .i64 r1,.bool r2]) ∧ Below w.heap.size w w' := by
 unfold impl_number.f at h
 split at h
 ·rename_i hsz
  replace h := Option.some.inj h
  unfold numB at h
  rcases hA : Lib.atoiAll a0.data.toList with v | _ | _
  rotate_left
  ·rw [hA] at h
   obtain ⟨rfl,rfl⟩ := Prod.mk.inj h
   obtain ⟨ev,hv,hev⟩ := hV.syn
   have hc := Aside0.mk (Tryd.strconv_Atoi_syntax a0 hsz (by rw [hA]; exact True.intro) ev w hv hev)
   clear hV hv hev hA hsz h
   go_enter Tryd.func37,Tryd.ntmps37
   go_wp2_with (go_at_call 45; refine hc.out.mono ?_; rintro e w1 ⟨N,rfl,hN,hcell,hb⟩; clear hN hcell; have HB := Aside0.mk hb; clear hb)
   go_ret2
   exact ⟨rfl,HB.out⟩
  ·rw [hA] at h
   obtain ⟨rfl,rfl⟩ := Prod.mk.inj h
   obtain ⟨ev,hv,hev⟩ := hV.rng
   have hc := Aside0.mk (Tryd.strconv_Atoi_range a0 hsz hA ev w hv hev)
   clear hV hv hev hA hsz h
   generalize Lib.atoiSat a0.data.toList = z at hc
   go_enter Tryd.func37,Tryd.ntmps37
   go_wp2_with (go_at_call 45; refine hc.out.mono ?_; rintro e w1 ⟨N,rfl,hN,hcell,hb⟩; clear hN hcell; have HB := Aside0.mk hb; clear hb)
   go_ret2
   exact ⟨rfl,HB.out⟩
  ·rw [hA] at h
   obtain ⟨rfl,h2⟩ := Prod.mk.inj h
   have hb0 := Lib.atoiAll_bounds hA
   have hc := Aside0.mk ((Tryd.strconv_Atoi_ok a0 (by omega) v hA w).mono fun e w' ⟨he,hw⟩ => (⟨he,by rcases hw with rfl | ⟨t,rfl⟩; exact Below.refl _ _; exact Lib.bytesWorld_below w _ t⟩ : e = _ ∧ Below w.heap.size w w'))
   have hI : Aside0 (∀ W,Below w.heap.size w W → Calls Tryd.prog 46 #[.int .i64 v] W fun e w' => e = .returned (.string (strI v)) ∧ Below w.heap.size w w') := ⟨fun W hb => (strconv_Itoa.calls v (strI v) W (hV.below hb) (by unfold strconv_Itoa.f strI; rw [if_pos hb0])).mono fun e w' ⟨he,hb'⟩ => ⟨he,hb.trans (hb'.mono hb.size)⟩⟩
   have hW : Aside0 (∀ W,Calls Tryd.prog 31 #[.int .i64 v,.int .i64 (-999999999999999999),.int .i64 999999999999999999] W fun e w' => e = .returned (.bool (decide (-999999999999999999 ≤ v) && decide (v ≤ 999999999999999999))) ∧ Drawn0 W w') := ⟨fun W => impl_within.calls v _ _ _ W (by unfold impl_within.f; by_cases hq : -999999999999999999 ≤ v <;> simp [hq])⟩
   clear hA hsz h hV
   have hb0 := Aside0.mk hb0
   have h2 := Aside0.mk h2
   generalize (decide (-999999999999999999 ≤ v) && decide (v ≤ 999999999999999999)) = q at hW h2
   generalize strI v = s at hI h2
   by_cases hq : (s.toList == a0.toList) = true
   ·have hq' : s.toList = a0.toList := beq_iff_eq.1 hq
    obtain rfl : q = r2 := by have := h2.out; rw [hq] at this; simpa using this
    have hq' := Aside0.mk hq'
    clear h2
    go_enter Tryd.func37,Tryd.ntmps37
    go_wp2_with (first
     | (go_at_call 45; refine hc.out.mono ?_; rintro e w1 ⟨rfl,hb⟩; have HB := Aside0.mk hb; clear hb)
     | (go_at_call 46; refine (hI.out _ HB.out).mono ?_; rintro e w2 ⟨rfl,hb⟩; have HB2 := Aside0.mk hb; clear hb)
     | (go_at_call 31; refine (hW.out _).mono ?_; rintro e w3 ⟨rfl,⟨nd,rfl⟩⟩))
    go_ret2
    exact ⟨rfl,Drawn0.below_trans_ HB2.out nd⟩
   ·have hq0 : (s.toList == a0.toList) = false := by simpa using hq
    obtain rfl : false = r2 := by have := h2.out; rw [hq0] at this; simpa using this
    clear h2 hq
    go_enter Tryd.func37,Tryd.ntmps37
    go_wp2_with (first
     | (go_at_call 45; refine hc.out.mono ?_; rintro e w1 ⟨rfl,hb⟩; have HB := Aside0.mk hb; clear hb)
     | (go_at_call 46; refine (hI.out _ HB.out).mono ?_; rintro e w2 ⟨rfl,hb⟩; have HB2 := Aside0.mk hb; clear hb))
    go_ret2
    exact ⟨rfl,HB2.out⟩
 ·cases h

/-! ### impl_Store_pins: function 21 (by hand) -/
def idxP (p : Nat → Bool) : Nat → Nat → Int
 | 0,_ => -1
 | d + 1,i => if p i = true then (i : Int) else idxP p d (i + 1)
theorem idxP_at (p : Nat → Bool) : ∀ (d i : Nat),(idxP p d i = -1 ∧ ∀ t,i ≤ t → t < i + d → p t = false) ∨ ∃ c : Nat,idxP p d i = (c : Int) ∧ i ≤ c ∧ c < i + d ∧ p c = true ∧ ∀ t,i ≤ t → t < c → p t = false
 | 0,i => .inl ⟨rfl,fun t h1 h2 => by omega⟩
 | d + 1,i => by
  unfold idxP
  cases hp : p i with
  | true => rw [if_pos rfl]; exact .inr ⟨i,rfl,Nat.le_refl _,by omega,hp,fun t h1 h2 => by omega⟩
  | false =>
   rw [if_neg (by decide)]
   rcases idxP_at p d (i + 1) with ⟨h1,h2⟩ | ⟨c,h1,h2,h3,h4,h5⟩
   ·refine .inl ⟨h1,fun t h3 h4 => ?_⟩
    by_cases e : t = i
    ·subst e; exact hp
    ·exact h2 t (by omega) (by omega)
   ·refine .inr ⟨c,h1,by omega,by omega,h4,fun t h6 h7 => ?_⟩
    by_cases e : t = i
    ·subst e; exact hp
    ·exact h5 t (by omega) h7
set_option maxHeartbeats 4000000 in
set_option maxRecDepth 100000 in
theorem pn_idx (g : Nat) (lb : Array Value) (eg : ∀ args w,(callFunc g args).run Tryd.prog w = .ok (.enter g args) w) (p : Nat → Bool) (A0 : Option Addr) (c0 : Nat) (l0 : List ByteArray) (w : World) (hr0 : Kd.C Kd.string w A0 l0.length l0) (hsz : l0.length ≤ 140737488351232)
  (hp : ∀ (W : World) (i : Nat),i < l0.length → Below w.heap.size w W → Calls Tryd.prog g (#[.string (l0.getD i ByteArray.empty)] ++ lb) W fun e w' => e = .returned (.bool (p i)) ∧ Below w.heap.size w w') :
  Calls Tryd.prog 42 #[.slice A0 l0.length c0,.func (.func g) #[] lb] w fun e w' => e = .returned (.int .i64 (idxP p l0.length 0)) ∧ Below w.heap.size w w' := by
 have HR := Aside0.mk hr0
 have HP := Aside0.mk hp
 have S0 := Aside0.mk (Below.refl w.heap.size w)
 clear hr0 hp
 generalize hidx : idxP p l0.length 0 = idx
 have ID := Aside0.mk hidx
 clear hidx
 go_enter Tryd.func42,Tryd.ntmps42
 go_wp2
 go_loopg [5,8] l0.length (fun gg _ s8 wr => ∃ i : Nat,i ≤ l0.length ∧ l0.length - i ≤ gg ∧ s8 = .int .i64 i ∧ Aside0 (Below w.heap.size w wr) ∧ Aside0 (idxP p (l0.length - i) i = idx))
 case atStart => exact ⟨0,Nat.zero_le _,by omega,rfl,S0,ID⟩
 case round =>
  clear S0 ID
  obtain ⟨i,hi,hg,rfl,HB,I⟩ := hrel
  by_cases hlt : i < l0.length
  ·have hltz : (i : Int) < (l0.length : Int) := by omega
   have p0 : 0 ≤ (i : Int) := by omega
   obtain ⟨ad,ea,h0⟩ := Kd.at_string HR.out (i : Int) p0 hltz
   cases ea
   replace h0 := (HB.out.cell (World.block_lt_of_cell? w _ h0)).trans h0
   have hcall := HP.out wr i hlt HB.out
   have hy : rdOf ByteArray.empty l0 (i : Int) = l0.getD i ByteArray.empty := by unfold rdOf; rw [Int.toNat_natCast]
   rw [Int.toNat_natCast,hy] at h0
   clear hy HP
   generalize l0.getD i ByteArray.empty = y at h0 hcall
   have hstep : idxP p (l0.length - i) i = if p i = true then (i : Int) else idxP p (l0.length - (i + 1)) (i + 1) := by
    rw [show l0.length - i = (l0.length - (i + 1)) + 1 by omega]
    rfl
   have I2 := Aside0.mk (hstep.symm.trans I.out)
   clear hstep I
   cases hq : p i with
   | true =>
    rw [hq] at hcall I2
    go_wp2_with (go_at_fn g; refine hcall.mono ?_; rintro e w' ⟨rfl,hb'⟩; have HB2 := Aside0.mk hb'; clear hb')
    go_ret
    exact ⟨by rw [← I2.out]; rfl,HB2.out⟩
   | false =>
    rw [hq] at hcall I2
    go_wp2_with (go_at_fn g; refine hcall.mono ?_; rintro e w' ⟨rfl,hb'⟩; have HB2 := Aside0.mk hb'; clear hb')
    go_roundg (l0.length - (i + 1))
    case measure => omega
    case rel => exact ⟨i + 1,by omega,Nat.le_refl _,by go_num,HB2,⟨I2.out⟩⟩
  ·obtain rfl : i = l0.length := by omega
   have hltz : ¬ (l0.length : Int) < (l0.length : Int) := by omega
   have I2 : Aside0 (idx = -1) := ⟨by rw [← I.out,Nat.sub_self]; rfl⟩
   clear I
   go_wp2
   go_ret
   exact ⟨by rw [I2.out]; rfl,HB.out⟩
/-- 'clear(s)', s a slice of n elements of one cell. -/
theorem run_clear1 {P : Program} (w : World) (t e ty : TypeId) (z a1 : Value) (ht : P.underlying t = some (.slice e)) (hv : ∀ w,(zeroValue e).run P w = .ok z w) (hz : z.cells = #[a1]) (h1 : a1.oneCell' = true) (b o n c : Nat)
  (hc : ∀ j,j < n → (w.cell? ⟨b,o + j,none⟩).isSome = true) (hf : ∀ j,j < n → w.frozen? ⟨b,o + j,none⟩ = false) (hn : 0 < n) :
  (Builtin.clear_ #[t] ty #[.slice (some ⟨b,o,none⟩) n c]).run P w = .ok (.tuple #[]) (w.setCells b o (List.replicate n a1)) := by
 have hzc : (Builtin.zeroCells z.cells n).toList = List.replicate n a1 := by
  rw [hz]
  apply List.ext_getElem?
  intro j
  simp [Builtin.zeroCells,Array.toList_range,List.getElem?_replicate]
  by_cases h : j < n
  ·rw [List.getElem?_range h]; simp [h,Nat.mod_one]
  ·rw [List.getElem?_eq_none (by simpa using h)]; simp [h]
 have hst := run_storeCells_cells (P:=P) b o (List.replicate n a1) 0 w (by simpa using hc) (by simpa using hf) (by intro v hv; rw [List.eq_of_mem_replicate hv]; exact h1)
 simp only [Nat.add_zero] at hst
 obtain ⟨m,rfl⟩ : ∃ m,n = m + 1 := ⟨n - 1,by omega⟩
 simp [Builtin.clear_,run_underlying ht,hv,hzc,hst]
theorem pn_clear {w0 : World} {g cap n i : Nat} {ok : Nat → Prop} (hg : w0.heap.size ≤ g) : ∀ (m o : Nat) (W : World) (cur : List ByteArray),i ≤ o → Below w0.heap.size w0 W → Kd.R Kd.string 9 W w0.heap.size ok (.slice (some ⟨g,0,none⟩) n cap) cur →
  ∃ cur',Kd.R Kd.string 9 (W.setCells g o (List.replicate m (.string ⟨#[]⟩))) w0.heap.size ok (.slice (some ⟨g,0,none⟩) n cap) cur' ∧ cur'.length = cur.length ∧ cur'.take i = cur.take i ∧ Below w0.heap.size w0 (W.setCells g o (List.replicate m (.string ⟨#[]⟩)))
 | 0,_,_,cur,_,hB,h => ⟨cur,h,rfl,rfl,hB⟩
 | m + 1,o,W,cur,hi,hB,h => by
  have h1 := Kd.R_putn h (o : Int) (⟨#[]⟩ : ByteArray)
  rw [Int.toNat_natCast] at h1
  obtain ⟨cur',h2,h3,h4,h5⟩ := pn_clear (i:=i) hg m (o + 1) _ _ (by omega) (below_set (j:=o) (v:=.string ⟨#[]⟩) hB hg) h1
  refine ⟨cur',h2,by rw [h3,List.length_set],?_,h5⟩
  rw [h4]
  apply List.ext_getElem?
  intro t
  rw [List.getElem?_take,List.getElem?_take,List.getElem?_set]
  by_cases ht : t < i
  ·rw [if_pos ht,if_pos ht,if_neg (by omega)]
  ·rw [if_neg ht,if_neg ht]
set_option maxHeartbeats 2000000 in
theorem pn_idx_nil (g c : Nat) (lb : Array Value) (w : World) : Calls Tryd.prog 42 #[.slice none 0 c,.func (.func g) #[] lb] w fun e w' => e = .returned (.int .i64 (-1)) ∧ Below w.heap.size w w' := by
 have HB := Aside0.mk (Below.refl w.heap.size w)
 go_enter Tryd.func42,Tryd.ntmps42
 go_wp2
 go_loopg [5,8] 0 (fun gg _ s8 wr => s8 = .int .i64 0 ∧ Aside0 (Below w.heap.size w wr))
 case atStart => exact ⟨rfl,HB⟩
 case round =>
  clear HB
  obtain ⟨rfl,HB⟩ := hrel
  go_wp2
  go_ret
  exact ⟨rfl,HB.out⟩
set_option maxHeartbeats 2000000 in
theorem pn_nil (g c : Nat) (lb : Array Value) (w : World) : Calls Tryd.prog 33 #[.slice none 0 c,.func (.func g) #[] lb] w fun e w' => e = .returned (.slice none 0 c) ∧ Below w.heap.size w w' := by
 have HI := Aside0.mk (pn_idx_nil g c lb w)
 go_enter Tryd.func33,Tryd.ntmps33
 go_wp2_with (go_at_call 42; refine HI.out.mono ?_; rintro e w1 ⟨rfl,hb⟩; have HB := Aside0.mk hb; clear hb)
 go_ret
 exact ⟨rfl,HB.out⟩
set_option maxHeartbeats 8000000 in
set_option maxRecDepth 100000 in
theorem pn_del (h0 : Nat) (lb : Array Value) (eg : ∀ args w,(callFunc h0 args).run Tryd.prog w = .ok (.enter h0 args) w) (q : ByteArray → Bool) (g cap : Nat) (l : List ByteArray) (w0 w : World) (ok : Nat → Prop) (Good : World → Prop) (hB : Below w0.heap.size w0 w) (ho : Kd.R Kd.string 9 w w0.heap.size ok (.slice (some ⟨g,0,none⟩) l.length cap) l) (hsz : l.length ≤ 140737488351232) (hgood : Good w)
  (hg1 : ∀ W W',Good W → Below W.heap.size W W' → Good W') (hg2 : ∀ W j u,Good W → Good (W.setCell ⟨g,j,none⟩ u))
  (hp : ∀ (W : World) (i : Nat),i < l.length → Good W → Calls Tryd.prog h0 (#[.string (l.getD i ByteArray.empty)] ++ lb) W fun e w' => e = .returned (.bool (q (l.getD i ByteArray.empty))) ∧ Below W.heap.size W w') :
  Calls Tryd.prog 33 #[.slice (some ⟨g,0,none⟩) l.length cap,.func (.func h0) #[] lb] w fun e w' => ∃ v0,e = .returned v0 ∧ Kd.R Kd.string 9 w' w0.heap.size ok v0 (l.filter fun x => !(q x)) ∧ Below w0.heap.size w0 w' := by
 have hidx := pn_idx h0 lb eg (fun i => q (l.getD i ByteArray.empty)) (some ⟨g,0,none⟩) cap l w (Kd.R_reads' ho).2.2 hsz (fun W i hi hb => (hp W i hi (hg1 w W hgood hb)).mono fun e w' ⟨he,hb'⟩ => ⟨he,hb.trans (hb'.mono hb.size)⟩)
 have hcap : l.length ≤ cap := (Kd.R_reads' ho).2.1
 have hgb : w0.heap.size ≤ g := Kd.R_base ho g (by simp [Value.ownBlock])
 have hgetl : ∀ t (h : t < l.length),l.getD t ByteArray.empty = l[t] := fun t h => by rw [List.getD_eq_getElem?_getD,List.getElem?_eq_getElem h]; rfl
 have HO := Aside0.mk ho
 have HB := Aside0.mk hB
 have HG := Aside0.mk hgood
 have HG1 := Aside0.mk hg1
 have HG2 := Aside0.mk hg2
 have HP := Aside0.mk hp
 have HGB := Aside0.mk hgb
 have HL := Aside0.mk hgetl
 have HS := Aside0.mk hsz
 have HCAP := Aside0.mk hcap
 have hu26 := Tryd.underlying26
 rcases idxP_at (fun i => q (l.getD i ByteArray.empty)) l.length 0 with ⟨hi1,hi2⟩ | ⟨c,hi1,_,hi3,hi4,hi5⟩
 ·rw [hi1] at hidx
  have HI := Aside0.mk hidx
  have hF : (l.filter fun x => !(q x)) = l := by
   rw [List.filter_eq_self]
   intro x hx
   obtain ⟨t,ht,rfl⟩ := List.getElem_of_mem hx
   have := hi2 t (by omega) (by omega)
   rw [hgetl t ht] at this
   rw [this]
   rfl
  rw [hF]
  clear hidx hi1 hi2 ho hB hgood hg1 hg2 hp hgb hgetl hF hsz hcap
  go_enter Tryd.func33,Tryd.ntmps33
  go_wp2_with (go_at_call 42; refine HI.out.mono ?_; rintro e w1 ⟨rfl,hb⟩; have HO1 := Aside0.mk (Kd.R_below HO.out hb); have HB1 := Aside0.mk (below_step HB.out hb); clear hb)
  go_ret
  exact ⟨_,rfl,HO1.out,HB1.out⟩
 ·rw [hi1] at hidx
  have HI := Aside0.mk hidx
  have hc3 : c < l.length := by omega
  have hq : q (l.getD c ByteArray.empty) = true := hi4
  have ht0 : l.take c = (l.take (c + 1)).filter fun x => !(q x) := by
   rw [List.take_succ_eq_append_getElem hc3,List.filter_append]
   rw [hgetl c hc3] at hq
   have e1 : (l.take c).filter (fun x => !(q x)) = l.take c := by
    rw [List.filter_eq_self]
    intro x hx
    obtain ⟨t,ht,rfl⟩ := List.getElem_of_mem hx
    rw [List.length_take] at ht
    have := hi5 t (by omega) (by omega)
    rw [hgetl t (by omega)] at this
    rw [List.getElem_take,this]
    rfl
   rw [e1,List.filter_cons,hq]
   simp
  have HT := Aside0.mk ht0
  have hne1 : ((c : Int) == -1) = false := beq_eq_false_iff_ne.2 (by omega)
  clear hidx hi1 hi4 hi5 ho hB hgood hg1 hg2 hp hgb hgetl hsz hcap hq ht0
  go_enter Tryd.func33,Tryd.ntmps33
  go_wp2_with (go_at_call 42; refine HI.out.mono ?_; rintro e w1 ⟨rfl,hb⟩; have HO1 := Aside0.mk (Kd.R_below HO.out hb); have HB1 := Aside0.mk (below_step HB.out hb); have HGD1 := Aside0.mk (HG1.out _ _ HG.out hb); clear HO HB HG HI hb)
  go_loopg [5,6,7] l.length (fun gg s5 s6 _ wr => ∃ (cur : List ByteArray) (i j : Nat),s5 = .int .i64 i ∧ s6 = .int .i64 j ∧ i < j ∧ j ≤ l.length ∧ l.length - j ≤ gg ∧ Aside0 (cur.length = l.length ∧ cur.take i = ((l.take j).filter fun x => !(q x)) ∧ ∀ t,j ≤ t → cur[t]? = l[t]?) ∧ Aside0 (Kd.R Kd.string 9 wr w0.heap.size ok (.slice (some ⟨g,0,none⟩) l.length cap) cur) ∧ Aside0 (Below w0.heap.size w0 wr) ∧ Aside0 (Good wr))
  case atStart => exact ⟨l,c,c + 1,by go_num,by first | go_num | (congr 1; have := HS.out; unfold wrap64; omega),by omega,by omega,by omega,⟨rfl,HT.out,fun _ _ => rfl⟩,HO1,HB1,HGD1⟩
  case round =>
   clear HO1 HB1 HGD1 HT
   obtain ⟨cur,i,j,rfl,rfl,hij,hjn,hgg,HC,HO1,HB1,HGD1⟩ := hrel
   by_cases hlt : j < l.length
   ·have hltz : (j : Int) < (l.length : Int) := by omega
    obtain ⟨hcl,hct,hcr⟩ := HC.out
    have hx := Kd.R_celln ByteArray.empty HO1.out (j : Int) (by omega) (by omega)
    have hs := Kd.R_celln ByteArray.empty HO1.out (i : Int) (by omega) (by omega)
    have hy : rdOf ByteArray.empty cur (j : Int) = l.getD j ByteArray.empty := by
     unfold rdOf
     rw [Int.toNat_natCast,List.getD_eq_getElem?_getD,List.getD_eq_getElem?_getD,hcr j (Nat.le_refl _)]
    rw [Int.toNat_natCast,hy] at hx
    rw [Int.toNat_natCast] at hs
    obtain ⟨hx1,hx2⟩ := hx
    obtain ⟨hs1,hs2⟩ := hs
    have hlx := HL.out j hlt
    have hcall := HP.out wr j hlt HGD1.out
    have htk : l.take (j + 1) = l.take j ++ [l.getD j ByteArray.empty] := by rw [hlx]; exact List.take_succ_eq_append_getElem hlt
    clear hy hcl hct hcr hlx
    generalize l.getD j ByteArray.empty = y at hx1 hcall htk
    have HTK := Aside0.mk htk
    clear htk hx2
    cases hq : q y with
    | true =>
     rw [hq] at hcall
     have HCALL := Aside0.mk hcall
     clear hcall hs1 hs2
     go_wp2_with (go_at_fn h0; refine HCALL.out.mono ?_; rintro e w2 ⟨rfl,hb⟩; have HO2 := Aside0.mk (Kd.R_below HO1.out hb); have HB2 := Aside0.mk (below_step HB1.out hb); have HGD2 := Aside0.mk (HG1.out _ _ HGD1.out hb); clear hb)
     go_roundg (l.length - (j + 1))
     case measure => omega
     case rel =>
      refine ⟨cur,i,j + 1,by go_num,by first | go_num | (congr 1; have := HS.out; unfold wrap64; omega),by omega,by omega,Nat.le_refl _,⟨HC.out.1,?_,fun t ht => HC.out.2.2 t (by omega)⟩,HO2,HB2,HGD2⟩
      rw [HC.out.2.1,HTK.out,List.filter_append,List.filter_cons,hq]
      simp
    | false =>
     rw [hq] at hcall
     have HCALL := Aside0.mk hcall
     clear hcall
     go_wp2_with (go_at_fn h0; refine HCALL.out.mono ?_; rintro e w2 ⟨rfl,hb⟩; replace hx1 := (hb.cell (World.block_lt_of_cell? _ _ hx1)).trans hx1; have HO2 := Aside0.mk (Kd.R_below HO1.out hb); have hs3 := Kd.R_celln ByteArray.empty HO2.out (i : Int) (by omega) (by omega); rw [Int.toNat_natCast] at hs3; have hs4 := hs3.1; have hs5 := hs3.2; clear hs1 hs2 hs3; have HB2 := Aside0.mk (below_step HB1.out hb); have HGD2 := Aside0.mk (HG1.out _ _ HGD1.out hb); clear hb)
     go_roundg (l.length - (j + 1))
     case measure => omega
     case rel =>
      have h1 := Kd.R_putn HO2.out (i : Int) y
      rw [Int.toNat_natCast] at h1
      refine ⟨cur.set i y,i + 1,j + 1,by first | go_num | (congr 1; have := HS.out; unfold wrap64; omega),by first | go_num | (congr 1; have := HS.out; unfold wrap64; omega),by omega,by omega,Nat.le_refl _,⟨by rw [List.length_set]; exact HC.out.1,?_,fun t ht => ?_⟩,⟨h1⟩,⟨below_set (j:=i) (v:=.string y) HB2.out HGB.out⟩,⟨HG2.out _ i (.string y) HGD2.out⟩⟩
      ·have hil : i < cur.length := by rw [HC.out.1]; omega
       rw [List.take_succ_eq_append_getElem (by simpa using hil)]
       simp only [List.take_set,List.getElem_set_self]
       rw [List.set_eq_of_length_le (by simp; omega),HC.out.2.1,HTK.out,List.filter_append,List.filter_cons,hq]
       simp
      ·rw [List.getElem?_set,if_neg (by omega)]
       exact HC.out.2.2 t (by omega)
   ·obtain rfl : j = l.length := by omega
    have hltz : ¬ ((l.length : Int) < (l.length : Int)) := by omega
    have hclr : ∀ ty,(Builtin.clear_ #[26] ty #[.slice (some ⟨g,i,none⟩) (l.length - i) (cap - i)]).run Tryd.prog wr = .ok (.tuple #[]) (wr.setCells g i (List.replicate (l.length - i) (.string ⟨#[]⟩))) := fun ty =>
     run_clear1 wr _ 9 ty (.string ⟨#[]⟩) (.string ⟨#[]⟩) hu26 (fun W => by kernel_rfl) rfl rfl g i _ _ (fun t ht => by
      have := (Kd.R_celln ByteArray.empty HO1.out ((i + t : Nat) : Int) (by omega) (by omega)).1
      rw [Int.toNat_natCast] at this
      rw [this]
      rfl) (fun t ht => by
      have := (Kd.R_celln ByteArray.empty HO1.out ((i + t : Nat) : Int) (by omega) (by omega)).2
      rw [Int.toNat_natCast] at this
      exact this) (by omega)
    obtain ⟨cur',h2,h3,h4,h5⟩ := pn_clear HGB.out (l.length - i) i wr cur (Nat.le_refl _) HB1.out HO1.out
    have h6 := Kd.R_take (m:=i) h2 (by rw [h3,HC.out.1]; omega)
    rw [h4,HC.out.2.1,List.take_length] at h6
    have H6 := Aside0.mk h6
    have H5 := Aside0.mk h5
    clear h2 h3 h4 h5 h6 HO1 HB1 HGD1
    have hcap2 := HCAP.out
    go_wp2
    go_ret
    exact ⟨_,rfl,H6.out,H5.out⟩
/-- whether a pin ended long ago -/
def pinE (l0 : List S51) (a1 now : Int) (x : ByteArray) : Option Bool := (impl_Store_get.f l0 a1 x).bind fun d => (impl_number.f d.1).bind fun n => some (n.2 && decide (wrap64 (n.1 + 6) < now))
set_option maxHeartbeats 8000000 in
set_option maxRecDepth 100000 in
theorem pin_one (l0 : List S51) (a1 now : Int) (A0 : Option Addr) (c0 : Nat) (x : ByteArray) (b : Bool) (Bx Bn : Nat) (W : World) (hV : Vars W) (hr0 : Kd.C k51 W A0 l0.length l0) (hc0 : l0.length ≤ c0)
  (hx : W.heap[Bx]? = some (.cells #[.slice A0 l0.length c0,.int .i64 a1] 31 (0,0))) (hn : W.heap[Bn]? = some (.cells #[.int .i64 now] 3 (0,0))) (h : pinE l0 a1 now x = some b) :
  Calls Tryd.prog 35 #[.string x,.pointer (some ⟨Bx,0,none⟩),.pointer (some ⟨Bn,0,none⟩)] W fun e w' => e = .returned (.bool b) ∧ Below W.heap.size W w' := by
 unfold pinE at h
 obtain ⟨⟨d,is⟩,h1,h⟩ := Option.bind_eq_some_iff.mp h
 obtain ⟨⟨n,ok⟩,h2,h⟩ := Option.bind_eq_some_iff.mp h
 replace h : (ok && decide (wrap64 (n + 6) < now)) = b := Option.some.inj h
 replace h2 : impl_number.f d = some (n,ok) := h2
 have HB := Aside0.mk (Below.refl W.heap.size W)
 have hcx0 : W.cell? ⟨Bx,0,none⟩ = some (.slice A0 l0.length c0) := (blk_cell hx 0).trans rfl
 have hcx1 : W.cell? ⟨Bx,1,none⟩ = some (.int .i64 a1) := (blk_cell hx 1).trans rfl
 have hcn : W.cell? ⟨Bn,0,none⟩ = some (.int .i64 now) := (blk_cell hn 0).trans rfl
 have hu31 := Tryd.underlying31
 have G := Aside0.mk (fun W' (hb : Below W.heap.size W W') => impl_Store_get.calls A0 c0 l0 a1 x d is W' (Kd.C_below hr0 hb) hc0 h1)
 have NU := Aside0.mk (fun W' (hb : Below W.heap.size W W') => impl_number.calls d n ok W' (hV.below hb) h2)
 clear hV hr0 hc0 hx hn h1 h2
 cases ok with
 | true =>
  replace h : decide (wrap64 (n + 6) < now) = b := by simpa using h
  go_enter Tryd.func35,Tryd.ntmps35
  go_wp2_with (first
   | (go_at_call 36; refine (G.out _ (by repeat (first | (with_reducible exact HB.out) | apply below_alloc | apply pw_below_drewN | apply below_drew1))).mono ?_; rintro e w1 ⟨rfl,hb⟩; replace hcn := (hb.cell (World.block_lt_of_cell? _ _ hcn)).trans hcn; have HB1 := Aside0.mk (below_step (by repeat (first | (with_reducible exact HB.out) | apply below_alloc | apply pw_below_drewN | apply below_drew1)) hb); clear hb)
   | (go_at_call 37; refine (NU.out _ (by repeat (first | (with_reducible exact HB1.out) | apply below_alloc | apply pw_below_drewN | apply below_drew1))).mono ?_; rintro e w2 ⟨rfl,hb⟩; replace hcn := (hb.cell (World.block_lt_of_cell? _ _ hcn)).trans hcn; have HB2 := Aside0.mk (below_step (by repeat (first | (with_reducible exact HB1.out) | apply below_alloc | apply pw_below_drewN | apply below_drew1)) hb); clear hb))
  go_ret
  exact ⟨by first | rfl | (rw [← h]; rfl) | simp [h],by repeat (first | (with_reducible exact HB2.out) | apply below_alloc | apply pw_below_drewN | apply below_drew1)⟩
 | false =>
  obtain rfl : false = b := by simpa using h
  clear h
  go_enter Tryd.func35,Tryd.ntmps35
  go_wp2_with (first
   | (go_at_call 36; refine (G.out _ (by repeat (first | (with_reducible exact HB.out) | apply below_alloc | apply pw_below_drewN | apply below_drew1))).mono ?_; rintro e w1 ⟨rfl,hb⟩; replace hcn := (hb.cell (World.block_lt_of_cell? _ _ hcn)).trans hcn; have HB1 := Aside0.mk (below_step (by repeat (first | (with_reducible exact HB.out) | apply below_alloc | apply pw_below_drewN | apply below_drew1)) hb); clear hb)
   | (go_at_call 37; refine (NU.out _ (by repeat (first | (with_reducible exact HB1.out) | apply below_alloc | apply pw_below_drewN | apply below_drew1))).mono ?_; rintro e w2 ⟨rfl,hb⟩; replace hcn := (hb.cell (World.block_lt_of_cell? _ _ hcn)).trans hcn; have HB2 := Aside0.mk (below_step (by repeat (first | (with_reducible exact HB1.out) | apply below_alloc | apply pw_below_drewN | apply below_drew1)) hb); clear hb))
  go_ret
  exact ⟨by first | rfl | simp,by repeat (first | (with_reducible exact HB2.out) | apply below_alloc | apply pw_below_drewN | apply below_drew1)⟩
def impl_Store_pins.f (k : Nat) (l0 : List S51) (a1 now : Int) : Option (List ByteArray) := (impl_Store_keys.f k l0 a1 (⟨#[112,105,110,47]⟩ : ByteArray)).bind fun ks => if ks.length ≤ 140737488351232 ∧ (ks.all fun x => (pinE l0 a1 now x).isSome) = true then some (ks.filter fun x => !(pinE l0 a1 now x == some true)) else none
theorem impl_Store_pins.mono : ∀ l0 a1 now k,LeO (impl_Store_pins.f k l0 a1 now) (impl_Store_pins.f (k + 1) l0 a1 now) := by
 intro l0 a1 now k
 unfold impl_Store_pins.f
 exact LeO.bind (impl_Store_keys.mono _ _ _ _) (fun _ => LeO.refl _)
set_option maxHeartbeats 8000000 in
set_option maxRecDepth 100000 in
theorem impl_Store_pins.calls (k : Nat) (A0 : Option Addr) (c0 : Nat) (l0 : List S51) (a1 now : Int) (r : List ByteArray) (w : World) (hV : Vars w) (hr0 : Kd.C k51 w A0 l0.length l0) (hc0 : l0.length ≤ c0) (h : impl_Store_pins.f k l0 a1 now = some r) :
  Calls Tryd.prog 21 #[.agg #[.slice A0 l0.length c0,.int .i64 a1],.int .i64 now] w fun e w' => ∃ v0_ : Value,e = .returned v0_ ∧ Kd.R Kd.string 9 w' w.heap.size (fun _ => True) v0_ r ∧ Below w.heap.size w w' := by
 unfold impl_Store_pins.f at h
 obtain ⟨ks,h1,h⟩ := Option.bind_eq_some_iff.mp h
 split at h
 ·rename_i hh
  obtain ⟨h2,h3⟩ := hh
  obtain rfl := Option.some.inj h
  clear h
  have hpin : ∀ (Bx Bn : Nat) (v : Value) (hx : some Bx ≠ v.ownBlock) (hn : some Bn ≠ v.ownBlock) (W : World),Below w.heap.size w W → W.heap[Bx]? = some (.cells #[.slice A0 l0.length c0,.int .i64 a1] 31 (0,0)) → W.heap[Bn]? = some (.cells #[.int .i64 now] 3 (0,0)) → Kd.R Kd.string 9 W w.heap.size (fun _ => True) v ks →
    Calls Tryd.prog 33 #[v,.func (.func 35) #[] #[.pointer (some ⟨Bx,0,none⟩),.pointer (some ⟨Bn,0,none⟩)]] W fun e w' => ∃ v0,e = .returned v0 ∧ Kd.R Kd.string 9 w' w.heap.size (fun _ => True) v0 (ks.filter fun x => !(pinE l0 a1 now x == some true)) ∧ Below w.heap.size w w' := by
   intro Bx Bn v hxg hng W hB hx hn ho
   have hs := Kd.R_slice ho
   have hrr := ho
   obtain ⟨h0,inner,hown,hreps⟩ := hrr
   rcases hown.2 with hnil | ⟨g,cap,cur,rfl,hg,hh,rr⟩
   ·have hv : v = .slice none 0 0 := hnil.1
    subst hv
    obtain ⟨A,c,e⟩ := hs
    have hl : ks = [] := by
     have : ks.length = 0 := by injection e with _ e2 _; exact e2.symm
     exact List.eq_nil_of_length_eq_zero this
    subst hl
    refine (pn_nil 35 0 _ W).mono ?_
    rintro e w' ⟨rfl,hb⟩
    exact ⟨_,rfl,Kd.R_nil _ _ _ _ _,below_step hB hb⟩
   ·have hxg' : Bx ≠ g := fun e => hxg (by simp [Value.ownBlock,e])
    have hng' : Bn ≠ g := fun e => hng (by simp [Value.ownBlock,e])
    refine pn_del 35 #[.pointer (some ⟨Bx,0,none⟩),.pointer (some ⟨Bn,0,none⟩)] (enters_of Tryd.func35 (by kernel_rfl) rfl) (fun x => pinE l0 a1 now x == some true) g cap ks w W (fun _ => True) (fun W' => Below w.heap.size w W' ∧ W'.heap[Bx]? = some (.cells #[.slice A0 l0.length c0,.int .i64 a1] 31 (0,0)) ∧ W'.heap[Bn]? = some (.cells #[.int .i64 now] 3 (0,0))) hB ho h2 ⟨hB,hx,hn⟩ ?_ ?_ ?_
    ·rintro W1 W2 ⟨a,b,c⟩ hb
     exact ⟨below_step a hb,(hb.block Bx (blk_lt b)).trans b,(hb.block Bn (blk_lt c)).trans c⟩
    ·rintro W1 j u ⟨a,b,c⟩
     exact ⟨below_set (j:=j) (v:=u) a hg,(Below.heap_setCell W1 ⟨g,j,none⟩ u Bx hxg').trans b,(Below.heap_setCell W1 ⟨g,j,none⟩ u Bn hng').trans c⟩
    ·rintro W1 i hi ⟨a,b,c⟩
     have hxm : ks.getD i ByteArray.empty ∈ ks := by rw [List.getD_eq_getElem?_getD,List.getElem?_eq_getElem hi]; exact List.getElem_mem hi
     obtain ⟨bb,hb1⟩ := Option.isSome_iff_exists.1 (List.all_eq_true.1 h3 _ hxm)
     refine (pin_one l0 a1 now A0 c0 _ bb Bx Bn W1 (hV.below a) (Kd.C_below hr0 a) hc0 b c hb1).mono ?_
     rintro e w' ⟨he,hb2⟩
     refine ⟨?_,hb2⟩
     rw [he,hb1]
     cases bb <;> rfl
  have HPIN := Aside0.mk hpin
  have HKEY := Aside0.mk (fun W (hW : Below w.heap.size w W) => impl_Store_keys.calls k A0 c0 l0 a1 (⟨#[112,105,110,47]⟩ : ByteArray) ks W (Kd.C_below hr0 hW) hc0 h1)
  have HB := Aside0.mk (Below.refl w.heap.size w)
  have hu31 := Tryd.underlying31
  clear hpin hr0 hc0 h1 hV h3 h2
  go_enter Tryd.func21,Tryd.ntmps21
  go_wp2_with (first
   | ((with_reducible refine gate_dst (N:=2) rfl ?_); refine box_event ?hg (N:=2) ?hd (cs := #[.slice A0 l0.length c0,.int .i64 a1]) (t:=31) ?hr ?_; (case hd => rfl); (case hg => rfl); (case hr => first | (go_simp; done) | (go_simp; rfl)); intro gx hgx w2 hbox hb; have HB2 := Aside0.mk (below_step HB.out hb); have BKx2 := Aside0.mk hbox; clear hb hbox hgx)
   | ((with_reducible refine gate_dst (N:=3) rfl ?_); refine box_event ?hg (N:=3) ?hd (cs := #[.int .i64 now]) (t:=3) ?hr ?_; (case hd => rfl); (case hg => rfl); (case hr => first | (go_simp; done) | (go_simp; rfl)); intro gn hgn w3 hbox hb; have HB3 := Aside0.mk (below_step HB2.out hb); have BKn3 := Aside0.mk hbox; have BKx3 := Aside0.mk ((hb.block gx (blk_lt BKx2.out)).trans BKx2.out); have hcx0 : w3.cell? ⟨gx,0,none⟩ = some (.slice A0 l0.length c0) := (blk_cell BKx3.out 0).trans rfl; have hcx1 : w3.cell? ⟨gx,1,none⟩ = some (.int .i64 a1) := (blk_cell BKx3.out 1).trans rfl; clear hb hbox hgn)
   | (go_at_call 34; refine (HKEY.out _ (by repeat (first | (with_reducible exact HB3.out) | apply below_alloc | apply pw_below_drewN | apply below_drew1))).mono ?_; rintro e w5 ⟨v5,rfl,hR,hb⟩; have HB5 := Aside0.mk (below_step HB3.out hb); have BKx5 := Aside0.mk ((hb.block gx (blk_lt BKx3.out)).trans BKx3.out); have BKn5 := Aside0.mk ((hb.block gn (blk_lt BKn3.out)).trans BKn3.out); have NX5 := Aside0.mk (show some gx ≠ v5.ownBlock from fun e => by have h1 := Kd.R_base hR gx e.symm; have h2 := blk_lt BKx3.out; first | omega | (simp at h1; omega)); have NN5 := Aside0.mk (show some gn ≠ v5.ownBlock from fun e => by have h1 := Kd.R_base hR gn e.symm; have h2 := blk_lt BKn3.out; first | omega | (simp at h1; omega)); have HO5 := Aside0.mk (Kd.R_lower hR HB3.out.size); clear hb hR hcx0 hcx1)
   | (go_at_call 33; refine (HPIN.out gx gn v5 NX5.out NN5.out _ (by repeat (first | (with_reducible exact HB5.out) | apply below_alloc | apply pw_below_drewN | apply below_drew1)) (by (with_reducible repeat (first | refine blk_drewN ?_ _ | refine blk_drew ?_)); exact BKx5.out) (by (with_reducible repeat (first | refine blk_drewN ?_ _ | refine blk_drew ?_)); exact BKn5.out) (by (with_reducible repeat (first | apply Kd.R_drewN | apply Kd.R_drew)); exact HO5.out)).mono ?_; rintro e w8 ⟨v8,rfl,hO,hB⟩; have HO8 := Aside0.mk hO; have HB8 := Aside0.mk hB; clear hO hB))
  go_ret
  exact ⟨_,rfl,HO8.out,HB8.out⟩
 ·cases h

end Go.Proofs.YtbodkbaniebfaaaDoor.XFnExactPinsAt
