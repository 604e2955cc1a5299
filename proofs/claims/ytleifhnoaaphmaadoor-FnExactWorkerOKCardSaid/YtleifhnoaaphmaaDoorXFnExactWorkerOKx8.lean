-- Printed by this session's own program wip/tools/xprint.py, which widens the kit's print. Not trusted: Lean checks it.
import Derived.Test.YtleifhnoaaphmaaDoorXFnExactWorkerOKx0
import Derived.Test.YtleifhnoaaphmaaDoorXFnExactWorkerOKx7
namespace Go.Proofs.YtleifhnoaaphmaaDoor.XFnExactWorkerOK
open List (setIfInBounds_toArray set_cons_zero set_cons_succ)
open Go.RowKit Go.Proofs.YtleifhnoaaphmaaDoorW.PrintWords Go.Proofs.YtleifhnoaaphmaaDoorW.PrintLast Go.Proofs.YtleifhnoaaphmaaDoorW.PrintMore
attribute [local go_sem] max2_int min2_int max_two min_two max_three min_three max_four min_four   -- for this text's walks alone
set_option linter.unusedVariables false
set_option linter.unusedSimpArgs false

/-! ### impl_isToken: function 88 -/
def impl_isToken.f (a0 : Int) : Option (Bool) := (impl_within.f a0 1 999999).bind fun t254 => (some t254)
set_option maxHeartbeats 8000000 in
set_option maxRecDepth 100000 in
theorem impl_isToken.calls (a0 : Int) (r : Bool) (w : World) (h : impl_isToken.f a0 = some r) :
  Calls Tryd.prog 88 #[.int .i64 a0] w fun e w' => e = .returned (.bool r) ∧ Drawn0 w w' := by
 have H : ((impl_within.f a0 1 999999).bind fun t254 => (some t254)) = some r := h
 clear h
 replace H := Option.bind_eq_some_iff.mp H
 obtain ⟨t254,A20,H⟩ := H
 try dsimp only at H
 have A2 := Aside0.mk A20
 clear A20
 obtain rfl := Option.some.inj H
 go_enter Tryd.func88,Tryd.ntmps88
 go_wp2_with (first | ((with_reducible refine gate_callee (f:=54) rfl ?_); refine goesL_ (some 4) rfl rfl Tryd.func54 (by kernel_rfl) rfl #[.int .i64 a0,.int .i64 1,.int .i64 999999] rfl mA ?_; (with_reducible refine (impl_within.calls a0 1 999999 t254 _ A2.out).mono ?_); rintro e w' ⟨rfl,⟨nd,rfl⟩⟩; refine ⟨_,rfl,?_⟩))
 go_ret
 exact ⟨by first | rfl | (simp; done) | (simp [*]; done),by repeat (first | exact Drawn0.refl _ | apply Drawn0.step)⟩

/-! ### impl_RecordOK: function 55 -/
def impl_RecordOK.j0 : Nat → Bool → Int → Int → Int → Int → Int → ByteArray → Option (Bool)
 | 0,_,_,_,_,_,_,_ => none
 | k + 1,x3,x256000,x256001,x256002,x256003,x256004,x256005 => if x256000 = 1 then (if x256001 = 0 then (if x256002 = 0 then ((impl_Record_entry.f x256000 x256001 x256002 x256003 x256004 x256005).bind fun bt256 => ((impl_entryOK.f k bt256.1 bt256.2.1 bt256.2.2.1 bt256.2.2.2).bind fun t260 => (some t260))) else (some false)) else (some false)) else (if x256000 = 2 then ((impl_isToken.f x256001).bind fun t261 => (if t261 = true then (if x3 = true then (some (x256005.toList == ([] : List UInt8))) else (some false)) else (some false))) else (if x256000 = 3 then ((impl_isToken.f x256001).bind fun t262 => (if t262 = true then (if x256002 > 0 then ((impl_Record_entry.f x256000 x256001 x256002 x256003 x256004 x256005).bind fun bt263 => ((impl_entryOK.f k bt263.1 bt263.2.1 bt263.2.2.1 bt263.2.2.2).bind fun t267 => (some t267))) else (some false)) else (some false))) else (if x256000 = 4 then ((impl_isToken.f x256001).bind fun t268 => (if t268 = true then ((impl_Record_entry.f x256000 x256001 x256002 x256003 x256004 x256005).bind fun bt269 => ((impl_entryOK.f k bt269.1 bt269.2.1 bt269.2.2.1 bt269.2.2.2).bind fun t273 => (some t273))) else (some false))) else (if x256000 = 5 then ((impl_readDataKey.f k x256005).bind fun bt274 => (if x256001 = 0 then (if x3 = true then (some bt274.2.2.2) else (some false)) else (some false))) else (some false)))))
def impl_RecordOK.f (k : Nat) (a0_0 : Int) (a0_1 : Int) (a0_2 : Int) (a0_3 : Int) (a0_4 : Int) (a0_5 : ByteArray) : Option (Bool) := if a0_2 = 0 then (if a0_3 = 0 then (impl_RecordOK.j0 k (a0_4 == 0) a0_0 a0_1 a0_2 a0_3 a0_4 a0_5) else (impl_RecordOK.j0 k false a0_0 a0_1 a0_2 a0_3 a0_4 a0_5)) else (impl_RecordOK.j0 k false a0_0 a0_1 a0_2 a0_3 a0_4 a0_5)
theorem impl_RecordOK.mono_l : ∀ k,(∀ y0 y1 y2 y3 y4 y5 y6,LeO (impl_RecordOK.j0 k y0 y1 y2 y3 y4 y5 y6) (impl_RecordOK.j0 (k + 1) y0 y1 y2 y3 y4 y5 y6))
 | 0 => fun _ _ _ _ _ _ _ r h => by simp [impl_RecordOK.j0] at h
 | k + 1 => by
  have ih0 := impl_RecordOK.mono_l k
  ·intro y0 y1 y2 y3 y4 y5 y6
   unfold impl_RecordOK.j0
   repeat' first
   | (with_reducible exact ih0 _ _ _ _ _ _ _)
   | (with_reducible exact impl_entryOK.mono _ _ _ _ _)
   | (with_reducible exact impl_readDataKey.mono _ _)
   | (with_reducible exact LeO.refl _)
   | (with_reducible exact LeO.none _)
   | (with_reducible refine LeO.ite ?_ ?_)
   | (with_reducible refine LeO.bind ?_ (fun _ => ?_))
   | exact ih0 _ _ _ _ _ _ _
   | exact impl_entryOK.mono _ _ _ _ _
   | exact impl_readDataKey.mono _ _
   | exact LeO.none _
   | refine LeO.ite ?_ ?_
   | refine LeO.bind ?_ (fun _ => ?_)
theorem impl_RecordOK.mono : ∀ a0 a1 a2 a3 a4 a5 k,LeO (impl_RecordOK.f k a0 a1 a2 a3 a4 a5) (impl_RecordOK.f (k + 1) a0 a1 a2 a3 a4 a5) := by
 intro a0 a1 a2 a3 a4 a5 k
 have ih0 := impl_RecordOK.mono_l k
 unfold impl_RecordOK.f
 repeat' first
   | (with_reducible exact ih0 _ _ _ _ _ _ _)
   | (with_reducible exact impl_entryOK.mono _ _ _ _ _)
   | (with_reducible exact impl_readDataKey.mono _ _)
   | (with_reducible exact LeO.refl _)
   | (with_reducible exact LeO.none _)
   | (with_reducible refine LeO.ite ?_ ?_)
   | (with_reducible refine LeO.bind ?_ (fun _ => ?_))
   | exact ih0 _ _ _ _ _ _ _
   | exact impl_entryOK.mono _ _ _ _ _
   | exact impl_readDataKey.mono _ _
   | exact LeO.none _
   | refine LeO.ite ?_ ?_
   | refine LeO.bind ?_ (fun _ => ?_)
set_option maxHeartbeats 8000000 in
set_option maxRecDepth 100000 in
theorem impl_RecordOK.calls (k : Nat) (a0_0 : Int) (a0_1 : Int) (a0_2 : Int) (a0_3 : Int) (a0_4 : Int) (a0_5 : ByteArray) (r : Bool) (w : World) (hV : Vars w) (h : impl_RecordOK.f k a0_0 a0_1 a0_2 a0_3 a0_4 a0_5 = some r) :
  Calls Tryd.prog 55 #[.agg #[.int .i64 a0_0,.int .i64 a0_1,.int .i64 a0_2,.int .i64 a0_3,.int .i64 a0_4,.string a0_5]] w fun e w' => e = .returned (.bool r) ∧ Below w.heap.size w w' := by
 have hu47 := Tryd.underlying47
 have HV := Aside0.mk hV
 clear hV
 have HB := Aside0.mk (Below.refl w.heap.size w)
 have H : (if a0_2 = 0 then (if a0_3 = 0 then (impl_RecordOK.j0 k (a0_4 == 0) a0_0 a0_1 a0_2 a0_3 a0_4 a0_5) else (impl_RecordOK.j0 k false a0_0 a0_1 a0_2 a0_3 a0_4 a0_5)) else (impl_RecordOK.j0 k false a0_0 a0_1 a0_2 a0_3 a0_4 a0_5)) = some r := h
 clear h
 have HC2 := Aside0.mk H
 clear H
 go_enter Tryd.func55,Tryd.ntmps55
 go_upto_region 1 with (first | ((with_reducible refine gate_dst (N:=1) rfl ?_); refine box_event ?hg (N:=1) ?hd (cs := #[.int .i64 a0_0,.int .i64 a0_1,.int .i64 a0_2,.int .i64 a0_3,.int .i64 a0_4,.string a0_5]) (t:=47) ?hr ?_; (case hd => rfl); (case hg => rfl); (case hr => first | (go_simp; done) | (go_simp; rfl)); intro gb255 hg w3 hbox hb; have n0_ := Aside0.mk (below_step bA hb); have n1_ := Aside0.mk (hbox); have n2_ := Aside0.mk ((by rw [hg]; exact (below_size bA) : w.heap.size ≤ gb255)); have n3_ := Aside0.mk ((by rw [hg]; exact (below_size bA) : w.heap.size ≤ gb255)); clear HB; have HB := n0_; have BK255 := n1_; have GW255 := n2_; have GE255 := n3_; clear n0_ n1_ n2_ n3_; clear hb hbox hg))
 (try simp only [Act.put,setIfInBounds_toArray,set_cons_zero,set_cons_succ])
 go_cut [3] (fun v3 wc => ∃ (kq : Nat) (x3_1 : Bool),v3 = .bool x3_1 ∧ Aside0 (impl_RecordOK.j0 kq x3_1 a0_0 a0_1 a0_2 a0_3 a0_4 a0_5 = some r) ∧ Aside0 (kq ≤ k) ∧ Aside0 (wc.heap[gb255]? = some (.cells #[.int .i64 a0_0,.int .i64 a0_1,.int .i64 a0_2,.int .i64 a0_3,.int .i64 a0_4,.string a0_5] 47 (0,0))) ∧ Aside0 (Below w.heap.size w wc))
 case first =>
  have H := HC2.out
  clear HC2
  by_cases c4 : a0_2 = 0
  ·rw [if_pos c4] at H
   have c4b0 : (a0_2 == 0) = true := beq_iff_eq.mpr c4
   have c4b1 : (a0_2 != 0) = false := bne_eq_false_iff_eq.mpr c4
   clear c4
   (first | rw [c4b0] | (simp only [i64_w,i32_w]; rw [c4b0]) | skip)
   by_cases c5 : a0_3 = 0
   ·rw [if_pos c5] at H
    have c5b0 : (a0_3 == 0) = true := beq_iff_eq.mpr c5
    have c5b1 : (a0_3 != 0) = false := bne_eq_false_iff_eq.mpr c5
    clear c5
    have H' := Aside0.mk H
    clear H
    have hcz6_0 : w3.cell? ⟨gb255,0,none⟩ = some (.int .i64 a0_0) := (blk_cell BK255.out 0).trans rfl
    have hcz6_1 : w3.cell? ⟨gb255,1,none⟩ = some (.int .i64 a0_1) := (blk_cell BK255.out 1).trans rfl
    have hcz6_2 : w3.cell? ⟨gb255,2,none⟩ = some (.int .i64 a0_2) := (blk_cell BK255.out 2).trans rfl
    have hcz6_3 : w3.cell? ⟨gb255,3,none⟩ = some (.int .i64 a0_3) := (blk_cell BK255.out 3).trans rfl
    have hcz6_4 : w3.cell? ⟨gb255,4,none⟩ = some (.int .i64 a0_4) := (blk_cell BK255.out 4).trans rfl
    have hcz6_5 : w3.cell? ⟨gb255,5,none⟩ = some (.string a0_5) := (blk_cell BK255.out 5).trans rfl
    have hfz6_0 := blk_frozen BK255.out 0
    have hfz6_1 := blk_frozen BK255.out 1
    have hfz6_2 := blk_frozen BK255.out 2
    have hfz6_3 := blk_frozen BK255.out 3
    have hfz6_4 := blk_frozen BK255.out 4
    have hfz6_5 := blk_frozen BK255.out 5
    go_wp2
    go_meet
    case rel => exact ⟨_,((a0_4 == 0)),(by first | rfl | (simp; done) | (simp [*]; done)),H',⟨by first | omega | exact Nat.le_refl _⟩,⟨kA BK255.out⟩,⟨bA⟩⟩
   ·rw [if_neg c5] at H
    have c5b0 : (a0_3 == 0) = false := beq_eq_false_iff_ne.mpr c5
    have c5b1 : (a0_3 != 0) = true := bne_iff_ne.mpr c5
    have H' := Aside0.mk H
    clear H
    have hcz7_0 : w3.cell? ⟨gb255,0,none⟩ = some (.int .i64 a0_0) := (blk_cell BK255.out 0).trans rfl
    have hcz7_1 : w3.cell? ⟨gb255,1,none⟩ = some (.int .i64 a0_1) := (blk_cell BK255.out 1).trans rfl
    have hcz7_2 : w3.cell? ⟨gb255,2,none⟩ = some (.int .i64 a0_2) := (blk_cell BK255.out 2).trans rfl
    have hcz7_3 : w3.cell? ⟨gb255,3,none⟩ = some (.int .i64 a0_3) := (blk_cell BK255.out 3).trans rfl
    have hcz7_4 : w3.cell? ⟨gb255,4,none⟩ = some (.int .i64 a0_4) := (blk_cell BK255.out 4).trans rfl
    have hcz7_5 : w3.cell? ⟨gb255,5,none⟩ = some (.string a0_5) := (blk_cell BK255.out 5).trans rfl
    have hfz7_0 := blk_frozen BK255.out 0
    have hfz7_1 := blk_frozen BK255.out 1
    have hfz7_2 := blk_frozen BK255.out 2
    have hfz7_3 := blk_frozen BK255.out 3
    have hfz7_4 := blk_frozen BK255.out 4
    have hfz7_5 := blk_frozen BK255.out 5
    go_wp2
    go_meet
    case rel => exact ⟨_,(false),(by first | rfl | (simp; done) | (simp [*]; done)),H',⟨by first | omega | exact Nat.le_refl _⟩,⟨kA BK255.out⟩,⟨bA⟩⟩
  ·rw [if_neg c4] at H
   have c4b0 : (a0_2 == 0) = false := beq_eq_false_iff_ne.mpr c4
   have c4b1 : (a0_2 != 0) = true := bne_iff_ne.mpr c4
   (first | rw [c4b0] | (simp only [i64_w,i32_w]; rw [c4b0]) | skip)
   have H' := Aside0.mk H
   clear H
   have hcz8_0 : w3.cell? ⟨gb255,0,none⟩ = some (.int .i64 a0_0) := (blk_cell BK255.out 0).trans rfl
   have hcz8_1 : w3.cell? ⟨gb255,1,none⟩ = some (.int .i64 a0_1) := (blk_cell BK255.out 1).trans rfl
   have hcz8_2 : w3.cell? ⟨gb255,2,none⟩ = some (.int .i64 a0_2) := (blk_cell BK255.out 2).trans rfl
   have hcz8_3 : w3.cell? ⟨gb255,3,none⟩ = some (.int .i64 a0_3) := (blk_cell BK255.out 3).trans rfl
   have hcz8_4 : w3.cell? ⟨gb255,4,none⟩ = some (.int .i64 a0_4) := (blk_cell BK255.out 4).trans rfl
   have hcz8_5 : w3.cell? ⟨gb255,5,none⟩ = some (.string a0_5) := (blk_cell BK255.out 5).trans rfl
   have hfz8_0 := blk_frozen BK255.out 0
   have hfz8_1 := blk_frozen BK255.out 1
   have hfz8_2 := blk_frozen BK255.out 2
   have hfz8_3 := blk_frozen BK255.out 3
   have hfz8_4 := blk_frozen BK255.out 4
   have hfz8_5 := blk_frozen BK255.out 5
   go_wp2
   go_meet
   case rel => exact ⟨_,(false),(by first | rfl | (simp; done) | (simp [*]; done)),H',⟨by first | omega | exact Nat.le_refl _⟩,⟨kA BK255.out⟩,⟨bA⟩⟩
 case rest =>
  clear HC2
  try clear p2
  try clear c4
  try clear c4b0
  try clear c4b1
  try clear c5
  try clear c5b0
  try clear c5b1
  try clear hcz6_0
  try clear hcz6_1
  try clear hcz6_2
  try clear hcz6_3
  try clear hcz6_4
  try clear hcz6_5
  try clear hcz7_0
  try clear hcz7_1
  try clear hcz7_2
  try clear hcz7_3
  try clear hcz7_4
  try clear hcz7_5
  try clear hcz8_0
  try clear hcz8_1
  try clear hcz8_2
  try clear hcz8_3
  try clear hcz8_4
  try clear hcz8_5
  try clear hfz6_0
  try clear hfz6_1
  try clear hfz6_2
  try clear hfz6_3
  try clear hfz6_4
  try clear hfz6_5
  try clear hfz7_0
  try clear hfz7_1
  try clear hfz7_2
  try clear hfz7_3
  try clear hfz7_4
  try clear hfz7_5
  try clear hfz8_0
  try clear hfz8_1
  try clear hfz8_2
  try clear hfz8_3
  try clear hfz8_4
  try clear hfz8_5
  obtain ⟨kq,x3_1,rfl,HA,HJ1,BK255,HB⟩ := hcut
  cases kq with
  | zero => exact absurd HA.out (by simp [impl_RecordOK.j0])
  | succ kj1 =>
   have H := HA.out
   clear HA
   simp only [impl_RecordOK.j0] at H
   by_cases c9 : a0_0 = 1
   ·rw [if_pos c9] at H
    have c9b0 : (a0_0 == 1) = true := beq_iff_eq.mpr c9
    have c9b1 : (a0_0 != 1) = false := bne_eq_false_iff_eq.mpr c9
    clear c9
    by_cases c10 : a0_1 = 0
    ·rw [if_pos c10] at H
     have c10b0 : (a0_1 == 0) = true := beq_iff_eq.mpr c10
     have c10b1 : (a0_1 != 0) = false := bne_eq_false_iff_eq.mpr c10
     clear c10
     by_cases c11 : a0_2 = 0
     ·rw [if_pos c11] at H
      have c11b0 : (a0_2 == 0) = true := beq_iff_eq.mpr c11
      have c11b1 : (a0_2 != 0) = false := bne_eq_false_iff_eq.mpr c11
      clear c11
      replace H := Option.bind_eq_some_iff.mp H
      obtain ⟨⟨t256,t257,t258,t259⟩,A120,H⟩ := H
      try dsimp only at H
      have A12 := Aside0.mk A120
      clear A120
      replace H := Option.bind_eq_some_iff.mp H
      obtain ⟨t260,A130,H⟩ := H
      try dsimp only at H
      have A13 := Aside0.mk A130
      clear A130
      obtain rfl := Option.some.inj H
      have hcz14_0 : wc.cell? ⟨gb255,0,none⟩ = some (.int .i64 a0_0) := (blk_cell BK255.out 0).trans rfl
      have hcz14_1 : wc.cell? ⟨gb255,1,none⟩ = some (.int .i64 a0_1) := (blk_cell BK255.out 1).trans rfl
      have hcz14_2 : wc.cell? ⟨gb255,2,none⟩ = some (.int .i64 a0_2) := (blk_cell BK255.out 2).trans rfl
      have hcz14_3 : wc.cell? ⟨gb255,3,none⟩ = some (.int .i64 a0_3) := (blk_cell BK255.out 3).trans rfl
      have hcz14_4 : wc.cell? ⟨gb255,4,none⟩ = some (.int .i64 a0_4) := (blk_cell BK255.out 4).trans rfl
      have hcz14_5 : wc.cell? ⟨gb255,5,none⟩ = some (.string a0_5) := (blk_cell BK255.out 5).trans rfl
      have hfz14_0 := blk_frozen BK255.out 0
      have hfz14_1 := blk_frozen BK255.out 1
      have hfz14_2 := blk_frozen BK255.out 2
      have hfz14_3 := blk_frozen BK255.out 3
      have hfz14_4 := blk_frozen BK255.out 4
      have hfz14_5 := blk_frozen BK255.out 5
      go_wp2_with (first | (go_at_call 87; (with_reducible refine (impl_Record_entry.calls a0_0 a0_1 a0_2 a0_3 a0_4 a0_5 t256 t257 t258 t259 _ A12.out).mono ?_); rintro e w15 ⟨rfl,hb⟩; have n0_ := Aside0.mk (blk_below (g:=gb255) (o:=.cells #[.int .i64 a0_0,.int .i64 a0_1,.int .i64 a0_2,.int .i64 a0_3,.int .i64 a0_4,.string a0_5] 47 (0,0)) (kA BK255.out) hb); have n1_ := Aside0.mk (below_step bA hb); clear BK255; clear HB; have BK255 := n0_; have HB := n1_; clear n0_ n1_; (try clear hb); (try clear hb2); (try clear hk); (try clear hi)) | (go_at_call 57; (with_reducible refine (impl_entryOK.calls kj1 t256 t257 t258 t259 t260 _ ?side1 A13.out).mono ?_); (case side1 => exact HV.out.below bA); rintro e w16 ⟨rfl,hb⟩; have n0_ := Aside0.mk (blk_below (g:=gb255) (o:=.cells #[.int .i64 a0_0,.int .i64 a0_1,.int .i64 a0_2,.int .i64 a0_3,.int .i64 a0_4,.string a0_5] 47 (0,0)) (kA BK255.out) hb); have n1_ := Aside0.mk (below_step bA hb); clear BK255; clear HB; have BK255 := n0_; have HB := n1_; clear n0_ n1_; (try clear hb); (try clear hb2); (try clear hk); (try clear hi)))
      go_ret
      exact ⟨by first | rfl | (simp [errW_none,errW_some] <;> rfl) | (simp [*,errW_none,errW_some] <;> rfl),bA⟩
     ·rw [if_neg c11] at H
      have c11b0 : (a0_2 == 0) = false := beq_eq_false_iff_ne.mpr c11
      have c11b1 : (a0_2 != 0) = true := bne_iff_ne.mpr c11
      obtain rfl := Option.some.inj H
      have hcz17_0 : wc.cell? ⟨gb255,0,none⟩ = some (.int .i64 a0_0) := (blk_cell BK255.out 0).trans rfl
      have hcz17_1 : wc.cell? ⟨gb255,1,none⟩ = some (.int .i64 a0_1) := (blk_cell BK255.out 1).trans rfl
      have hcz17_2 : wc.cell? ⟨gb255,2,none⟩ = some (.int .i64 a0_2) := (blk_cell BK255.out 2).trans rfl
      have hcz17_3 : wc.cell? ⟨gb255,3,none⟩ = some (.int .i64 a0_3) := (blk_cell BK255.out 3).trans rfl
      have hcz17_4 : wc.cell? ⟨gb255,4,none⟩ = some (.int .i64 a0_4) := (blk_cell BK255.out 4).trans rfl
      have hcz17_5 : wc.cell? ⟨gb255,5,none⟩ = some (.string a0_5) := (blk_cell BK255.out 5).trans rfl
      have hfz17_0 := blk_frozen BK255.out 0
      have hfz17_1 := blk_frozen BK255.out 1
      have hfz17_2 := blk_frozen BK255.out 2
      have hfz17_3 := blk_frozen BK255.out 3
      have hfz17_4 := blk_frozen BK255.out 4
      have hfz17_5 := blk_frozen BK255.out 5
      go_wp2
      go_ret
      exact ⟨by first | rfl | (simp [errW_none,errW_some] <;> rfl) | (simp [*,errW_none,errW_some] <;> rfl),bA⟩
    ·rw [if_neg c10] at H
     have c10b0 : (a0_1 == 0) = false := beq_eq_false_iff_ne.mpr c10
     have c10b1 : (a0_1 != 0) = true := bne_iff_ne.mpr c10
     obtain rfl := Option.some.inj H
     have hcz18_0 : wc.cell? ⟨gb255,0,none⟩ = some (.int .i64 a0_0) := (blk_cell BK255.out 0).trans rfl
     have hcz18_1 : wc.cell? ⟨gb255,1,none⟩ = some (.int .i64 a0_1) := (blk_cell BK255.out 1).trans rfl
     have hcz18_2 : wc.cell? ⟨gb255,2,none⟩ = some (.int .i64 a0_2) := (blk_cell BK255.out 2).trans rfl
     have hcz18_3 : wc.cell? ⟨gb255,3,none⟩ = some (.int .i64 a0_3) := (blk_cell BK255.out 3).trans rfl
     have hcz18_4 : wc.cell? ⟨gb255,4,none⟩ = some (.int .i64 a0_4) := (blk_cell BK255.out 4).trans rfl
     have hcz18_5 : wc.cell? ⟨gb255,5,none⟩ = some (.string a0_5) := (blk_cell BK255.out 5).trans rfl
     have hfz18_0 := blk_frozen BK255.out 0
     have hfz18_1 := blk_frozen BK255.out 1
     have hfz18_2 := blk_frozen BK255.out 2
     have hfz18_3 := blk_frozen BK255.out 3
     have hfz18_4 := blk_frozen BK255.out 4
     have hfz18_5 := blk_frozen BK255.out 5
     go_wp2
     go_ret
     exact ⟨by first | rfl | (simp [errW_none,errW_some] <;> rfl) | (simp [*,errW_none,errW_some] <;> rfl),bA⟩
   ·rw [if_neg c9] at H
    have c9b0 : (a0_0 == 1) = false := beq_eq_false_iff_ne.mpr c9
    have c9b1 : (a0_0 != 1) = true := bne_iff_ne.mpr c9
    by_cases c19 : a0_0 = 2
    ·rw [if_pos c19] at H
     have c19b0 : (a0_0 == 2) = true := beq_iff_eq.mpr c19
     have c19b1 : (a0_0 != 2) = false := bne_eq_false_iff_eq.mpr c19
     clear c19
     replace H := Option.bind_eq_some_iff.mp H
     obtain ⟨t261,A200,H⟩ := H
     try dsimp only at H
     have A20 := Aside0.mk A200
     clear A200
     by_cases c21 : t261 = true
     ·subst c21
      rw [if_pos rfl] at H
      by_cases c22 : x3_1 = true
      ·subst c22
       rw [if_pos rfl] at H
       obtain rfl := Option.some.inj H
       have hcz23_0 : wc.cell? ⟨gb255,0,none⟩ = some (.int .i64 a0_0) := (blk_cell BK255.out 0).trans rfl
       have hcz23_1 : wc.cell? ⟨gb255,1,none⟩ = some (.int .i64 a0_1) := (blk_cell BK255.out 1).trans rfl
       have hcz23_2 : wc.cell? ⟨gb255,2,none⟩ = some (.int .i64 a0_2) := (blk_cell BK255.out 2).trans rfl
       have hcz23_3 : wc.cell? ⟨gb255,3,none⟩ = some (.int .i64 a0_3) := (blk_cell BK255.out 3).trans rfl
       have hcz23_4 : wc.cell? ⟨gb255,4,none⟩ = some (.int .i64 a0_4) := (blk_cell BK255.out 4).trans rfl
       have hcz23_5 : wc.cell? ⟨gb255,5,none⟩ = some (.string a0_5) := (blk_cell BK255.out 5).trans rfl
       have hfz23_0 := blk_frozen BK255.out 0
       have hfz23_1 := blk_frozen BK255.out 1
       have hfz23_2 := blk_frozen BK255.out 2
       have hfz23_3 := blk_frozen BK255.out 3
       have hfz23_4 := blk_frozen BK255.out 4
       have hfz23_5 := blk_frozen BK255.out 5
       go_wp2_with (first | ((with_reducible refine gate_callee (f:=88) rfl ?_); refine goesL_ (some 42) rfl rfl Tryd.func88 (by kernel_rfl) rfl #[.int .i64 a0_1] rfl mA ?_; (with_reducible refine (impl_isToken.calls a0_1 true _ A20.out).mono ?_); rintro e w' ⟨rfl,⟨nd,rfl⟩⟩; refine ⟨_,rfl,?_⟩))
       go_ret
       exact ⟨by first | rfl | (simp [errW_none,errW_some] <;> rfl) | (simp [*,errW_none,errW_some] <;> rfl),bA⟩
      ·replace c22 := Bool.eq_false_iff.mpr c22
       subst c22
       rw [if_neg (show ¬ (false = true) by decide)] at H
       obtain rfl := Option.some.inj H
       have hcz24_0 : wc.cell? ⟨gb255,0,none⟩ = some (.int .i64 a0_0) := (blk_cell BK255.out 0).trans rfl
       have hcz24_1 : wc.cell? ⟨gb255,1,none⟩ = some (.int .i64 a0_1) := (blk_cell BK255.out 1).trans rfl
       have hcz24_2 : wc.cell? ⟨gb255,2,none⟩ = some (.int .i64 a0_2) := (blk_cell BK255.out 2).trans rfl
       have hcz24_3 : wc.cell? ⟨gb255,3,none⟩ = some (.int .i64 a0_3) := (blk_cell BK255.out 3).trans rfl
       have hcz24_4 : wc.cell? ⟨gb255,4,none⟩ = some (.int .i64 a0_4) := (blk_cell BK255.out 4).trans rfl
       have hcz24_5 : wc.cell? ⟨gb255,5,none⟩ = some (.string a0_5) := (blk_cell BK255.out 5).trans rfl
       have hfz24_0 := blk_frozen BK255.out 0
       have hfz24_1 := blk_frozen BK255.out 1
       have hfz24_2 := blk_frozen BK255.out 2
       have hfz24_3 := blk_frozen BK255.out 3
       have hfz24_4 := blk_frozen BK255.out 4
       have hfz24_5 := blk_frozen BK255.out 5
       go_wp2_with (first | ((with_reducible refine gate_callee (f:=88) rfl ?_); refine goesL_ (some 42) rfl rfl Tryd.func88 (by kernel_rfl) rfl #[.int .i64 a0_1] rfl mA ?_; (with_reducible refine (impl_isToken.calls a0_1 true _ A20.out).mono ?_); rintro e w' ⟨rfl,⟨nd,rfl⟩⟩; refine ⟨_,rfl,?_⟩))
       go_ret
       exact ⟨by first | rfl | (simp [errW_none,errW_some] <;> rfl) | (simp [*,errW_none,errW_some] <;> rfl),bA⟩
     ·replace c21 := Bool.eq_false_iff.mpr c21
      subst c21
      rw [if_neg (show ¬ (false = true) by decide)] at H
      obtain rfl := Option.some.inj H
      have hcz25_0 : wc.cell? ⟨gb255,0,none⟩ = some (.int .i64 a0_0) := (blk_cell BK255.out 0).trans rfl
      have hcz25_1 : wc.cell? ⟨gb255,1,none⟩ = some (.int .i64 a0_1) := (blk_cell BK255.out 1).trans rfl
      have hcz25_2 : wc.cell? ⟨gb255,2,none⟩ = some (.int .i64 a0_2) := (blk_cell BK255.out 2).trans rfl
      have hcz25_3 : wc.cell? ⟨gb255,3,none⟩ = some (.int .i64 a0_3) := (blk_cell BK255.out 3).trans rfl
      have hcz25_4 : wc.cell? ⟨gb255,4,none⟩ = some (.int .i64 a0_4) := (blk_cell BK255.out 4).trans rfl
      have hcz25_5 : wc.cell? ⟨gb255,5,none⟩ = some (.string a0_5) := (blk_cell BK255.out 5).trans rfl
      have hfz25_0 := blk_frozen BK255.out 0
      have hfz25_1 := blk_frozen BK255.out 1
      have hfz25_2 := blk_frozen BK255.out 2
      have hfz25_3 := blk_frozen BK255.out 3
      have hfz25_4 := blk_frozen BK255.out 4
      have hfz25_5 := blk_frozen BK255.out 5
      go_wp2_with (first | ((with_reducible refine gate_callee (f:=88) rfl ?_); refine goesL_ (some 42) rfl rfl Tryd.func88 (by kernel_rfl) rfl #[.int .i64 a0_1] rfl mA ?_; (with_reducible refine (impl_isToken.calls a0_1 false _ A20.out).mono ?_); rintro e w' ⟨rfl,⟨nd,rfl⟩⟩; refine ⟨_,rfl,?_⟩))
      go_ret
      exact ⟨by first | rfl | (simp [errW_none,errW_some] <;> rfl) | (simp [*,errW_none,errW_some] <;> rfl),bA⟩
    ·rw [if_neg c19] at H
     have c19b0 : (a0_0 == 2) = false := beq_eq_false_iff_ne.mpr c19
     have c19b1 : (a0_0 != 2) = true := bne_iff_ne.mpr c19
     by_cases c26 : a0_0 = 3
     ·rw [if_pos c26] at H
      have c26b0 : (a0_0 == 3) = true := beq_iff_eq.mpr c26
      have c26b1 : (a0_0 != 3) = false := bne_eq_false_iff_eq.mpr c26
      clear c26
      replace H := Option.bind_eq_some_iff.mp H
      obtain ⟨t262,A270,H⟩ := H
      try dsimp only at H
      have A27 := Aside0.mk A270
      clear A270
      by_cases c28 : t262 = true
      ·subst c28
       rw [if_pos rfl] at H
       by_cases c29 : a0_2 > 0
       ·rw [if_pos c29] at H
        have c29b0 : decide (0 < a0_2) = true := decide_eq_true c29
        clear c29
        replace H := Option.bind_eq_some_iff.mp H
        obtain ⟨⟨t263,t264,t265,t266⟩,A300,H⟩ := H
        try dsimp only at H
        have A30 := Aside0.mk A300
        clear A300
        replace H := Option.bind_eq_some_iff.mp H
        obtain ⟨t267,A310,H⟩ := H
        try dsimp only at H
        have A31 := Aside0.mk A310
        clear A310
        obtain rfl := Option.some.inj H
        have hcz32_0 : wc.cell? ⟨gb255,0,none⟩ = some (.int .i64 a0_0) := (blk_cell BK255.out 0).trans rfl
        have hcz32_1 : wc.cell? ⟨gb255,1,none⟩ = some (.int .i64 a0_1) := (blk_cell BK255.out 1).trans rfl
        have hcz32_2 : wc.cell? ⟨gb255,2,none⟩ = some (.int .i64 a0_2) := (blk_cell BK255.out 2).trans rfl
        have hcz32_3 : wc.cell? ⟨gb255,3,none⟩ = some (.int .i64 a0_3) := (blk_cell BK255.out 3).trans rfl
        have hcz32_4 : wc.cell? ⟨gb255,4,none⟩ = some (.int .i64 a0_4) := (blk_cell BK255.out 4).trans rfl
        have hcz32_5 : wc.cell? ⟨gb255,5,none⟩ = some (.string a0_5) := (blk_cell BK255.out 5).trans rfl
        have hfz32_0 := blk_frozen BK255.out 0
        have hfz32_1 := blk_frozen BK255.out 1
        have hfz32_2 := blk_frozen BK255.out 2
        have hfz32_3 := blk_frozen BK255.out 3
        have hfz32_4 := blk_frozen BK255.out 4
        have hfz32_5 := blk_frozen BK255.out 5
        go_wp2_with (first | ((with_reducible refine gate_callee (f:=88) rfl ?_); refine goesL_ (some 55) rfl rfl Tryd.func88 (by kernel_rfl) rfl #[.int .i64 a0_1] rfl mA ?_; (with_reducible refine (impl_isToken.calls a0_1 true _ A27.out).mono ?_); rintro e w' ⟨rfl,⟨nd,rfl⟩⟩; refine ⟨_,rfl,?_⟩) | (go_at_call 87; (with_reducible refine (impl_Record_entry.calls a0_0 a0_1 a0_2 a0_3 a0_4 a0_5 t263 t264 t265 t266 _ A30.out).mono ?_); rintro e w33 ⟨rfl,hb⟩; have n0_ := Aside0.mk (blk_below (g:=gb255) (o:=.cells #[.int .i64 a0_0,.int .i64 a0_1,.int .i64 a0_2,.int .i64 a0_3,.int .i64 a0_4,.string a0_5] 47 (0,0)) (kA BK255.out) hb); have n1_ := Aside0.mk (below_step bA hb); clear BK255; clear HB; have BK255 := n0_; have HB := n1_; clear n0_ n1_; (try clear hb); (try clear hb2); (try clear hk); (try clear hi)) | (go_at_call 57; (with_reducible refine (impl_entryOK.calls kj1 t263 t264 t265 t266 t267 _ ?side1 A31.out).mono ?_); (case side1 => exact HV.out.below bA); rintro e w34 ⟨rfl,hb⟩; have n0_ := Aside0.mk (blk_below (g:=gb255) (o:=.cells #[.int .i64 a0_0,.int .i64 a0_1,.int .i64 a0_2,.int .i64 a0_3,.int .i64 a0_4,.string a0_5] 47 (0,0)) (kA BK255.out) hb); have n1_ := Aside0.mk (below_step bA hb); clear BK255; clear HB; have BK255 := n0_; have HB := n1_; clear n0_ n1_; (try clear hb); (try clear hb2); (try clear hk); (try clear hi)))
        go_ret
        exact ⟨by first | rfl | (simp [errW_none,errW_some] <;> rfl) | (simp [*,errW_none,errW_some] <;> rfl),bA⟩
       ·rw [if_neg c29] at H
        have c29b0 : decide (0 < a0_2) = false := decide_eq_false c29
        clear c29
        obtain rfl := Option.some.inj H
        have hcz35_0 : wc.cell? ⟨gb255,0,none⟩ = some (.int .i64 a0_0) := (blk_cell BK255.out 0).trans rfl
        have hcz35_1 : wc.cell? ⟨gb255,1,none⟩ = some (.int .i64 a0_1) := (blk_cell BK255.out 1).trans rfl
        have hcz35_2 : wc.cell? ⟨gb255,2,none⟩ = some (.int .i64 a0_2) := (blk_cell BK255.out 2).trans rfl
        have hcz35_3 : wc.cell? ⟨gb255,3,none⟩ = some (.int .i64 a0_3) := (blk_cell BK255.out 3).trans rfl
        have hcz35_4 : wc.cell? ⟨gb255,4,none⟩ = some (.int .i64 a0_4) := (blk_cell BK255.out 4).trans rfl
        have hcz35_5 : wc.cell? ⟨gb255,5,none⟩ = some (.string a0_5) := (blk_cell BK255.out 5).trans rfl
        have hfz35_0 := blk_frozen BK255.out 0
        have hfz35_1 := blk_frozen BK255.out 1
        have hfz35_2 := blk_frozen BK255.out 2
        have hfz35_3 := blk_frozen BK255.out 3
        have hfz35_4 := blk_frozen BK255.out 4
        have hfz35_5 := blk_frozen BK255.out 5
        go_wp2_with (first | ((with_reducible refine gate_callee (f:=88) rfl ?_); refine goesL_ (some 55) rfl rfl Tryd.func88 (by kernel_rfl) rfl #[.int .i64 a0_1] rfl mA ?_; (with_reducible refine (impl_isToken.calls a0_1 true _ A27.out).mono ?_); rintro e w' ⟨rfl,⟨nd,rfl⟩⟩; refine ⟨_,rfl,?_⟩))
        go_ret
        exact ⟨by first | rfl | (simp [errW_none,errW_some] <;> rfl) | (simp [*,errW_none,errW_some] <;> rfl),bA⟩
      ·replace c28 := Bool.eq_false_iff.mpr c28
       subst c28
       rw [if_neg (show ¬ (false = true) by decide)] at H
       obtain rfl := Option.some.inj H
       have hcz36_0 : wc.cell? ⟨gb255,0,none⟩ = some (.int .i64 a0_0) := (blk_cell BK255.out 0).trans rfl
       have hcz36_1 : wc.cell? ⟨gb255,1,none⟩ = some (.int .i64 a0_1) := (blk_cell BK255.out 1).trans rfl
       have hcz36_2 : wc.cell? ⟨gb255,2,none⟩ = some (.int .i64 a0_2) := (blk_cell BK255.out 2).trans rfl
       have hcz36_3 : wc.cell? ⟨gb255,3,none⟩ = some (.int .i64 a0_3) := (blk_cell BK255.out 3).trans rfl
       have hcz36_4 : wc.cell? ⟨gb255,4,none⟩ = some (.int .i64 a0_4) := (blk_cell BK255.out 4).trans rfl
       have hcz36_5 : wc.cell? ⟨gb255,5,none⟩ = some (.string a0_5) := (blk_cell BK255.out 5).trans rfl
       have hfz36_0 := blk_frozen BK255.out 0
       have hfz36_1 := blk_frozen BK255.out 1
       have hfz36_2 := blk_frozen BK255.out 2
       have hfz36_3 := blk_frozen BK255.out 3
       have hfz36_4 := blk_frozen BK255.out 4
       have hfz36_5 := blk_frozen BK255.out 5
       go_wp2_with (first | ((with_reducible refine gate_callee (f:=88) rfl ?_); refine goesL_ (some 55) rfl rfl Tryd.func88 (by kernel_rfl) rfl #[.int .i64 a0_1] rfl mA ?_; (with_reducible refine (impl_isToken.calls a0_1 false _ A27.out).mono ?_); rintro e w' ⟨rfl,⟨nd,rfl⟩⟩; refine ⟨_,rfl,?_⟩))
       go_ret
       exact ⟨by first | rfl | (simp [errW_none,errW_some] <;> rfl) | (simp [*,errW_none,errW_some] <;> rfl),bA⟩
     ·rw [if_neg c26] at H
      have c26b0 : (a0_0 == 3) = false := beq_eq_false_iff_ne.mpr c26
      have c26b1 : (a0_0 != 3) = true := bne_iff_ne.mpr c26
      by_cases c37 : a0_0 = 4
      ·rw [if_pos c37] at H
       have c37b0 : (a0_0 == 4) = true := beq_iff_eq.mpr c37
       have c37b1 : (a0_0 != 4) = false := bne_eq_false_iff_eq.mpr c37
       clear c37
       replace H := Option.bind_eq_some_iff.mp H
       obtain ⟨t268,A380,H⟩ := H
       try dsimp only at H
       have A38 := Aside0.mk A380
       clear A380
       by_cases c39 : t268 = true
       ·subst c39
        rw [if_pos rfl] at H
        replace H := Option.bind_eq_some_iff.mp H
        obtain ⟨⟨t269,t270,t271,t272⟩,A400,H⟩ := H
        try dsimp only at H
        have A40 := Aside0.mk A400
        clear A400
        replace H := Option.bind_eq_some_iff.mp H
        obtain ⟨t273,A410,H⟩ := H
        try dsimp only at H
        have A41 := Aside0.mk A410
        clear A410
        obtain rfl := Option.some.inj H
        have hcz42_0 : wc.cell? ⟨gb255,0,none⟩ = some (.int .i64 a0_0) := (blk_cell BK255.out 0).trans rfl
        have hcz42_1 : wc.cell? ⟨gb255,1,none⟩ = some (.int .i64 a0_1) := (blk_cell BK255.out 1).trans rfl
        have hcz42_2 : wc.cell? ⟨gb255,2,none⟩ = some (.int .i64 a0_2) := (blk_cell BK255.out 2).trans rfl
        have hcz42_3 : wc.cell? ⟨gb255,3,none⟩ = some (.int .i64 a0_3) := (blk_cell BK255.out 3).trans rfl
        have hcz42_4 : wc.cell? ⟨gb255,4,none⟩ = some (.int .i64 a0_4) := (blk_cell BK255.out 4).trans rfl
        have hcz42_5 : wc.cell? ⟨gb255,5,none⟩ = some (.string a0_5) := (blk_cell BK255.out 5).trans rfl
        have hfz42_0 := blk_frozen BK255.out 0
        have hfz42_1 := blk_frozen BK255.out 1
        have hfz42_2 := blk_frozen BK255.out 2
        have hfz42_3 := blk_frozen BK255.out 3
        have hfz42_4 := blk_frozen BK255.out 4
        have hfz42_5 := blk_frozen BK255.out 5
        go_wp2_with (first | ((with_reducible refine gate_callee (f:=88) rfl ?_); refine goesL_ (some 70) rfl rfl Tryd.func88 (by kernel_rfl) rfl #[.int .i64 a0_1] rfl mA ?_; (with_reducible refine (impl_isToken.calls a0_1 true _ A38.out).mono ?_); rintro e w' ⟨rfl,⟨nd,rfl⟩⟩; refine ⟨_,rfl,?_⟩) | (go_at_call 87; (with_reducible refine (impl_Record_entry.calls a0_0 a0_1 a0_2 a0_3 a0_4 a0_5 t269 t270 t271 t272 _ A40.out).mono ?_); rintro e w43 ⟨rfl,hb⟩; have n0_ := Aside0.mk (blk_below (g:=gb255) (o:=.cells #[.int .i64 a0_0,.int .i64 a0_1,.int .i64 a0_2,.int .i64 a0_3,.int .i64 a0_4,.string a0_5] 47 (0,0)) (kA BK255.out) hb); have n1_ := Aside0.mk (below_step bA hb); clear BK255; clear HB; have BK255 := n0_; have HB := n1_; clear n0_ n1_; (try clear hb); (try clear hb2); (try clear hk); (try clear hi)) | (go_at_call 57; (with_reducible refine (impl_entryOK.calls kj1 t269 t270 t271 t272 t273 _ ?side1 A41.out).mono ?_); (case side1 => exact HV.out.below bA); rintro e w44 ⟨rfl,hb⟩; have n0_ := Aside0.mk (blk_below (g:=gb255) (o:=.cells #[.int .i64 a0_0,.int .i64 a0_1,.int .i64 a0_2,.int .i64 a0_3,.int .i64 a0_4,.string a0_5] 47 (0,0)) (kA BK255.out) hb); have n1_ := Aside0.mk (below_step bA hb); clear BK255; clear HB; have BK255 := n0_; have HB := n1_; clear n0_ n1_; (try clear hb); (try clear hb2); (try clear hk); (try clear hi)))
        go_ret
        exact ⟨by first | rfl | (simp [errW_none,errW_some] <;> rfl) | (simp [*,errW_none,errW_some] <;> rfl),bA⟩
       ·replace c39 := Bool.eq_false_iff.mpr c39
        subst c39
        rw [if_neg (show ¬ (false = true) by decide)] at H
        obtain rfl := Option.some.inj H
        have hcz45_0 : wc.cell? ⟨gb255,0,none⟩ = some (.int .i64 a0_0) := (blk_cell BK255.out 0).trans rfl
        have hcz45_1 : wc.cell? ⟨gb255,1,none⟩ = some (.int .i64 a0_1) := (blk_cell BK255.out 1).trans rfl
        have hcz45_2 : wc.cell? ⟨gb255,2,none⟩ = some (.int .i64 a0_2) := (blk_cell BK255.out 2).trans rfl
        have hcz45_3 : wc.cell? ⟨gb255,3,none⟩ = some (.int .i64 a0_3) := (blk_cell BK255.out 3).trans rfl
        have hcz45_4 : wc.cell? ⟨gb255,4,none⟩ = some (.int .i64 a0_4) := (blk_cell BK255.out 4).trans rfl
        have hcz45_5 : wc.cell? ⟨gb255,5,none⟩ = some (.string a0_5) := (blk_cell BK255.out 5).trans rfl
        have hfz45_0 := blk_frozen BK255.out 0
        have hfz45_1 := blk_frozen BK255.out 1
        have hfz45_2 := blk_frozen BK255.out 2
        have hfz45_3 := blk_frozen BK255.out 3
        have hfz45_4 := blk_frozen BK255.out 4
        have hfz45_5 := blk_frozen BK255.out 5
        go_wp2_with (first | ((with_reducible refine gate_callee (f:=88) rfl ?_); refine goesL_ (some 70) rfl rfl Tryd.func88 (by kernel_rfl) rfl #[.int .i64 a0_1] rfl mA ?_; (with_reducible refine (impl_isToken.calls a0_1 false _ A38.out).mono ?_); rintro e w' ⟨rfl,⟨nd,rfl⟩⟩; refine ⟨_,rfl,?_⟩))
        go_ret
        exact ⟨by first | rfl | (simp [errW_none,errW_some] <;> rfl) | (simp [*,errW_none,errW_some] <;> rfl),bA⟩
      ·rw [if_neg c37] at H
       have c37b0 : (a0_0 == 4) = false := beq_eq_false_iff_ne.mpr c37
       have c37b1 : (a0_0 != 4) = true := bne_iff_ne.mpr c37
       by_cases c46 : a0_0 = 5
       ·rw [if_pos c46] at H
        have c46b0 : (a0_0 == 5) = true := beq_iff_eq.mpr c46
        have c46b1 : (a0_0 != 5) = false := bne_eq_false_iff_eq.mpr c46
        clear c46
        replace H := Option.bind_eq_some_iff.mp H
        obtain ⟨⟨t274,t275,t276,t277⟩,A470,H⟩ := H
        try dsimp only at H
        have A47 := Aside0.mk A470
        clear A470
        by_cases c48 : a0_1 = 0
        ·rw [if_pos c48] at H
         have c48b0 : (a0_1 == 0) = true := beq_iff_eq.mpr c48
         have c48b1 : (a0_1 != 0) = false := bne_eq_false_iff_eq.mpr c48
         clear c48
         by_cases c49 : x3_1 = true
         ·subst c49
          rw [if_pos rfl] at H
          obtain rfl := Option.some.inj H
          have hcz50_0 : wc.cell? ⟨gb255,0,none⟩ = some (.int .i64 a0_0) := (blk_cell BK255.out 0).trans rfl
          have hcz50_1 : wc.cell? ⟨gb255,1,none⟩ = some (.int .i64 a0_1) := (blk_cell BK255.out 1).trans rfl
          have hcz50_2 : wc.cell? ⟨gb255,2,none⟩ = some (.int .i64 a0_2) := (blk_cell BK255.out 2).trans rfl
          have hcz50_3 : wc.cell? ⟨gb255,3,none⟩ = some (.int .i64 a0_3) := (blk_cell BK255.out 3).trans rfl
          have hcz50_4 : wc.cell? ⟨gb255,4,none⟩ = some (.int .i64 a0_4) := (blk_cell BK255.out 4).trans rfl
          have hcz50_5 : wc.cell? ⟨gb255,5,none⟩ = some (.string a0_5) := (blk_cell BK255.out 5).trans rfl
          have hfz50_0 := blk_frozen BK255.out 0
          have hfz50_1 := blk_frozen BK255.out 1
          have hfz50_2 := blk_frozen BK255.out 2
          have hfz50_3 := blk_frozen BK255.out 3
          have hfz50_4 := blk_frozen BK255.out 4
          have hfz50_5 := blk_frozen BK255.out 5
          go_wp2_with (first | ((with_reducible refine gate_callee (f:=82) rfl ?_); refine goesL_ (some 81) rfl rfl Tryd.func82 (by kernel_rfl) rfl #[.string a0_5] rfl mA ?_; (with_reducible refine (impl_readDataKey.calls kj1 a0_5 t274 t275 t276 t277 _ ?side1 A47.out).mono ?_); (case side1 => exact HV.out.below bA); rintro e w51 ⟨rfl,hb⟩; refine ⟨_,rfl,?_⟩; have n0_ := Aside0.mk (blk_below (g:=gb255) (o:=.cells #[.int .i64 a0_0,.int .i64 a0_1,.int .i64 a0_2,.int .i64 a0_3,.int .i64 a0_4,.string a0_5] 47 (0,0)) (kA BK255.out) hb); have n1_ := Aside0.mk (below_step bA hb); clear BK255; clear HB; have BK255 := n0_; have HB := n1_; clear n0_ n1_; (try clear hb); (try clear hb2); (try clear hk); (try clear hi); have hcz52_0 : w51.cell? ⟨gb255,0,none⟩ = some (.int .i64 a0_0) := (blk_cell BK255.out 0).trans rfl; have hcz52_1 : w51.cell? ⟨gb255,1,none⟩ = some (.int .i64 a0_1) := (blk_cell BK255.out 1).trans rfl; have hcz52_2 : w51.cell? ⟨gb255,2,none⟩ = some (.int .i64 a0_2) := (blk_cell BK255.out 2).trans rfl; have hcz52_3 : w51.cell? ⟨gb255,3,none⟩ = some (.int .i64 a0_3) := (blk_cell BK255.out 3).trans rfl; have hcz52_4 : w51.cell? ⟨gb255,4,none⟩ = some (.int .i64 a0_4) := (blk_cell BK255.out 4).trans rfl; have hcz52_5 : w51.cell? ⟨gb255,5,none⟩ = some (.string a0_5) := (blk_cell BK255.out 5).trans rfl; have hfz52_0 := blk_frozen BK255.out 0; have hfz52_1 := blk_frozen BK255.out 1; have hfz52_2 := blk_frozen BK255.out 2; have hfz52_3 := blk_frozen BK255.out 3; have hfz52_4 := blk_frozen BK255.out 4; have hfz52_5 := blk_frozen BK255.out 5))
          go_ret
          exact ⟨by first | rfl | (simp [errW_none,errW_some] <;> rfl) | (simp [*,errW_none,errW_some] <;> rfl),bA⟩
         ·replace c49 := Bool.eq_false_iff.mpr c49
          subst c49
          rw [if_neg (show ¬ (false = true) by decide)] at H
          obtain rfl := Option.some.inj H
          have hcz53_0 : wc.cell? ⟨gb255,0,none⟩ = some (.int .i64 a0_0) := (blk_cell BK255.out 0).trans rfl
          have hcz53_1 : wc.cell? ⟨gb255,1,none⟩ = some (.int .i64 a0_1) := (blk_cell BK255.out 1).trans rfl
          have hcz53_2 : wc.cell? ⟨gb255,2,none⟩ = some (.int .i64 a0_2) := (blk_cell BK255.out 2).trans rfl
          have hcz53_3 : wc.cell? ⟨gb255,3,none⟩ = some (.int .i64 a0_3) := (blk_cell BK255.out 3).trans rfl
          have hcz53_4 : wc.cell? ⟨gb255,4,none⟩ = some (.int .i64 a0_4) := (blk_cell BK255.out 4).trans rfl
          have hcz53_5 : wc.cell? ⟨gb255,5,none⟩ = some (.string a0_5) := (blk_cell BK255.out 5).trans rfl
          have hfz53_0 := blk_frozen BK255.out 0
          have hfz53_1 := blk_frozen BK255.out 1
          have hfz53_2 := blk_frozen BK255.out 2
          have hfz53_3 := blk_frozen BK255.out 3
          have hfz53_4 := blk_frozen BK255.out 4
          have hfz53_5 := blk_frozen BK255.out 5
          go_wp2_with (first | ((with_reducible refine gate_callee (f:=82) rfl ?_); refine goesL_ (some 81) rfl rfl Tryd.func82 (by kernel_rfl) rfl #[.string a0_5] rfl mA ?_; (with_reducible refine (impl_readDataKey.calls kj1 a0_5 t274 t275 t276 t277 _ ?side1 A47.out).mono ?_); (case side1 => exact HV.out.below bA); rintro e w54 ⟨rfl,hb⟩; refine ⟨_,rfl,?_⟩; have n0_ := Aside0.mk (blk_below (g:=gb255) (o:=.cells #[.int .i64 a0_0,.int .i64 a0_1,.int .i64 a0_2,.int .i64 a0_3,.int .i64 a0_4,.string a0_5] 47 (0,0)) (kA BK255.out) hb); have n1_ := Aside0.mk (below_step bA hb); clear BK255; clear HB; have BK255 := n0_; have HB := n1_; clear n0_ n1_; (try clear hb); (try clear hb2); (try clear hk); (try clear hi); have hcz55_0 : w54.cell? ⟨gb255,0,none⟩ = some (.int .i64 a0_0) := (blk_cell BK255.out 0).trans rfl; have hcz55_1 : w54.cell? ⟨gb255,1,none⟩ = some (.int .i64 a0_1) := (blk_cell BK255.out 1).trans rfl; have hcz55_2 : w54.cell? ⟨gb255,2,none⟩ = some (.int .i64 a0_2) := (blk_cell BK255.out 2).trans rfl; have hcz55_3 : w54.cell? ⟨gb255,3,none⟩ = some (.int .i64 a0_3) := (blk_cell BK255.out 3).trans rfl; have hcz55_4 : w54.cell? ⟨gb255,4,none⟩ = some (.int .i64 a0_4) := (blk_cell BK255.out 4).trans rfl; have hcz55_5 : w54.cell? ⟨gb255,5,none⟩ = some (.string a0_5) := (blk_cell BK255.out 5).trans rfl; have hfz55_0 := blk_frozen BK255.out 0; have hfz55_1 := blk_frozen BK255.out 1; have hfz55_2 := blk_frozen BK255.out 2; have hfz55_3 := blk_frozen BK255.out 3; have hfz55_4 := blk_frozen BK255.out 4; have hfz55_5 := blk_frozen BK255.out 5))
          go_ret
          exact ⟨by first | rfl | (simp [errW_none,errW_some] <;> rfl) | (simp [*,errW_none,errW_some] <;> rfl),bA⟩
        ·rw [if_neg c48] at H
         have c48b0 : (a0_1 == 0) = false := beq_eq_false_iff_ne.mpr c48
         have c48b1 : (a0_1 != 0) = true := bne_iff_ne.mpr c48
         obtain rfl := Option.some.inj H
         have hcz56_0 : wc.cell? ⟨gb255,0,none⟩ = some (.int .i64 a0_0) := (blk_cell BK255.out 0).trans rfl
         have hcz56_1 : wc.cell? ⟨gb255,1,none⟩ = some (.int .i64 a0_1) := (blk_cell BK255.out 1).trans rfl
         have hcz56_2 : wc.cell? ⟨gb255,2,none⟩ = some (.int .i64 a0_2) := (blk_cell BK255.out 2).trans rfl
         have hcz56_3 : wc.cell? ⟨gb255,3,none⟩ = some (.int .i64 a0_3) := (blk_cell BK255.out 3).trans rfl
         have hcz56_4 : wc.cell? ⟨gb255,4,none⟩ = some (.int .i64 a0_4) := (blk_cell BK255.out 4).trans rfl
         have hcz56_5 : wc.cell? ⟨gb255,5,none⟩ = some (.string a0_5) := (blk_cell BK255.out 5).trans rfl
         have hfz56_0 := blk_frozen BK255.out 0
         have hfz56_1 := blk_frozen BK255.out 1
         have hfz56_2 := blk_frozen BK255.out 2
         have hfz56_3 := blk_frozen BK255.out 3
         have hfz56_4 := blk_frozen BK255.out 4
         have hfz56_5 := blk_frozen BK255.out 5
         go_wp2_with (first | ((with_reducible refine gate_callee (f:=82) rfl ?_); refine goesL_ (some 81) rfl rfl Tryd.func82 (by kernel_rfl) rfl #[.string a0_5] rfl mA ?_; (with_reducible refine (impl_readDataKey.calls kj1 a0_5 t274 t275 t276 t277 _ ?side1 A47.out).mono ?_); (case side1 => exact HV.out.below bA); rintro e w57 ⟨rfl,hb⟩; refine ⟨_,rfl,?_⟩; have n0_ := Aside0.mk (blk_below (g:=gb255) (o:=.cells #[.int .i64 a0_0,.int .i64 a0_1,.int .i64 a0_2,.int .i64 a0_3,.int .i64 a0_4,.string a0_5] 47 (0,0)) (kA BK255.out) hb); have n1_ := Aside0.mk (below_step bA hb); clear BK255; clear HB; have BK255 := n0_; have HB := n1_; clear n0_ n1_; (try clear hb); (try clear hb2); (try clear hk); (try clear hi); have hcz58_0 : w57.cell? ⟨gb255,0,none⟩ = some (.int .i64 a0_0) := (blk_cell BK255.out 0).trans rfl; have hcz58_1 : w57.cell? ⟨gb255,1,none⟩ = some (.int .i64 a0_1) := (blk_cell BK255.out 1).trans rfl; have hcz58_2 : w57.cell? ⟨gb255,2,none⟩ = some (.int .i64 a0_2) := (blk_cell BK255.out 2).trans rfl; have hcz58_3 : w57.cell? ⟨gb255,3,none⟩ = some (.int .i64 a0_3) := (blk_cell BK255.out 3).trans rfl; have hcz58_4 : w57.cell? ⟨gb255,4,none⟩ = some (.int .i64 a0_4) := (blk_cell BK255.out 4).trans rfl; have hcz58_5 : w57.cell? ⟨gb255,5,none⟩ = some (.string a0_5) := (blk_cell BK255.out 5).trans rfl; have hfz58_0 := blk_frozen BK255.out 0; have hfz58_1 := blk_frozen BK255.out 1; have hfz58_2 := blk_frozen BK255.out 2; have hfz58_3 := blk_frozen BK255.out 3; have hfz58_4 := blk_frozen BK255.out 4; have hfz58_5 := blk_frozen BK255.out 5))
         go_ret
         exact ⟨by first | rfl | (simp [errW_none,errW_some] <;> rfl) | (simp [*,errW_none,errW_some] <;> rfl),bA⟩
       ·rw [if_neg c46] at H
        have c46b0 : (a0_0 == 5) = false := beq_eq_false_iff_ne.mpr c46
        have c46b1 : (a0_0 != 5) = true := bne_iff_ne.mpr c46
        obtain rfl := Option.some.inj H
        have hcz59_0 : wc.cell? ⟨gb255,0,none⟩ = some (.int .i64 a0_0) := (blk_cell BK255.out 0).trans rfl
        have hcz59_1 : wc.cell? ⟨gb255,1,none⟩ = some (.int .i64 a0_1) := (blk_cell BK255.out 1).trans rfl
        have hcz59_2 : wc.cell? ⟨gb255,2,none⟩ = some (.int .i64 a0_2) := (blk_cell BK255.out 2).trans rfl
        have hcz59_3 : wc.cell? ⟨gb255,3,none⟩ = some (.int .i64 a0_3) := (blk_cell BK255.out 3).trans rfl
        have hcz59_4 : wc.cell? ⟨gb255,4,none⟩ = some (.int .i64 a0_4) := (blk_cell BK255.out 4).trans rfl
        have hcz59_5 : wc.cell? ⟨gb255,5,none⟩ = some (.string a0_5) := (blk_cell BK255.out 5).trans rfl
        have hfz59_0 := blk_frozen BK255.out 0
        have hfz59_1 := blk_frozen BK255.out 1
        have hfz59_2 := blk_frozen BK255.out 2
        have hfz59_3 := blk_frozen BK255.out 3
        have hfz59_4 := blk_frozen BK255.out 4
        have hfz59_5 := blk_frozen BK255.out 5
        go_wp2
        go_ret
        exact ⟨by first | rfl | (simp [errW_none,errW_some] <;> rfl) | (simp [*,errW_none,errW_some] <;> rfl),bA⟩

/-! ### impl_Entry: function 56 (by hand) -/
def idxP (p : Nat → Bool) : Nat → Nat → Int
 | 0,_ => -1
 | d + 1,i => if p i = true then (i : Int) else idxP p d (i + 1)
theorem idxP_succ (p : Nat → Bool) (d i : Nat) : idxP p (d + 1) i = if p i = true then (i : Int) else idxP p d (i + 1) := rfl
theorem idxP_some (p : Nat → Bool) : ∀ (d i : Nat),decide (0 ≤ idxP p d i) = ((List.range' i d).any p)
 | 0,i => rfl
 | d + 1,i => by
  have ih := idxP_some p d (i + 1)
  rw [List.range'_succ,List.any_cons,← ih,idxP_succ]
  cases h : p i with
  | true => rw [if_pos rfl,decide_eq_true (Int.natCast_nonneg i)]; rfl
  | false => rw [if_neg (by decide)]; rfl
def allAt (q : S84 → Bool) (l : List S84) : Bool := !((List.range' 0 l.length).any fun i => !(q (l.getD i z84)))
theorem allAt_eq (q : S84 → Bool) (l : List S84) : allAt q l = l.all q := by
 unfold allAt
 rw [Bool.eq_iff_iff,Bool.not_eq_true',List.any_eq_false,List.all_eq_true]
 constructor
 ·intro h x hx
  obtain ⟨i,hi,rfl⟩ := List.getElem_of_mem hx
  have := h i (by rw [List.mem_range'_1]; omega)
  rw [List.getD_eq_getElem?_getD,List.getElem?_eq_getElem hi] at this
  simpa using this
 ·intro h i hi
  rw [List.mem_range'_1] at hi
  have hlt : i < l.length := by omega
  have := h l[i] (List.getElem_mem hlt)
  rw [List.getD_eq_getElem?_getD,List.getElem?_eq_getElem hlt]
  simp [this]
set_option maxHeartbeats 4000000 in
set_option maxRecDepth 100000 in
theorem idx_entry (g : Nat) (lb : Array Value) (eg : ∀ args w,(callFunc g args).run Tryd.prog w = .ok (.enter g args) w) (p : Nat → Bool) (A0 : Option Addr) (c0 : Nat) (l0 : List S84) (w : World) (hr0 : Kd.C k84 w A0 l0.length l0) (hsz : l0.length ≤ 140737488351232)
  (hp : ∀ (W : World) (i : Nat),i < l0.length → Below w.heap.size w W → Calls Tryd.prog g (#[.agg #[.int .i64 (l0.getD i z84).f0,.int .i64 (l0.getD i z84).f1,.int .i64 (l0.getD i z84).f2,.string (l0.getD i z84).f3]] ++ lb) W fun e w' => e = .returned (.bool (p i)) ∧ Below w.heap.size w w') :
  Calls Tryd.prog 106 #[.slice A0 l0.length c0,.func (.func g) #[] lb] w fun e w' => e = .returned (.int .i64 (idxP p l0.length 0)) ∧ Below w.heap.size w w' := by
 have HR := Aside0.mk hr0
 have HP := Aside0.mk hp
 have S0 := Aside0.mk (Below.refl w.heap.size w)
 have u84 := Tryd.underlying84
 clear hr0 hp
 generalize hidx : idxP p l0.length 0 = idx
 have ID := Aside0.mk hidx
 clear hidx
 go_enter Tryd.func106,Tryd.ntmps106
 go_wp2
 go_loopg [5,8] l0.length (fun gg _ s8 wr => ∃ i : Nat,i ≤ l0.length ∧ l0.length - i ≤ gg ∧ s8 = .int .i64 i ∧ Aside0 (Below w.heap.size w wr) ∧ Aside0 (idxP p (l0.length - i) i = idx))
 case atStart => exact ⟨0,Nat.zero_le _,by omega,rfl,S0,ID⟩
 case round =>
  clear S0 ID
  obtain ⟨i,hi,hg,rfl,HB,I⟩ := hrel
  by_cases hlt : i < l0.length
  ·have hltz : (i : Int) < (l0.length : Int) := by omega
   have p0 : 0 ≤ (i : Int) := by omega
   obtain ⟨ad,ea,h0,h1,h2,h3⟩ := at_T84 HR.out (i : Int) p0 hltz
   cases ea
   replace h0 := (HB.out.cell (World.block_lt_of_cell? w _ h0)).trans h0
   replace h1 := (HB.out.cell (World.block_lt_of_cell? w _ h1)).trans h1
   replace h2 := (HB.out.cell (World.block_lt_of_cell? w _ h2)).trans h2
   replace h3 := (HB.out.cell (World.block_lt_of_cell? w _ h3)).trans h3
   rw [Int.toNat_natCast] at h0 h1 h2 h3
   have hcall := HP.out wr i hlt HB.out
   have hy : rd_T84 l0 (i : Int) = l0.getD i z84 := by unfold rd_T84; rw [Int.toNat_natCast]
   rw [hy] at h0 h1 h2 h3
   clear hy HP
   generalize l0.getD i z84 = y at h0 h1 h2 h3 hcall
   have hstep : idxP p (l0.length - i) i = if p i = true then (i : Int) else idxP p (l0.length - (i + 1)) (i + 1) := by
    rw [show l0.length - i = (l0.length - (i + 1)) + 1 by omega]
    rfl
   have I2 := Aside0.mk (hstep.symm.trans I.out)
   clear hstep I
   cases hq : p i with
   | true =>
    rw [hq] at hcall I2
    go_wp2_with (go_at_fn g; refine hcall.mono ?_; rintro e w' ⟨rfl,hb'⟩; have HB2 := Aside0.mk hb'; clear hb')
    go_ret
    exact ⟨by rw [← I2.out]; rfl,HB2.out⟩
   | false =>
    rw [hq] at hcall I2
    go_wp2_with (go_at_fn g; refine hcall.mono ?_; rintro e w' ⟨rfl,hb'⟩; have HB2 := Aside0.mk hb'; clear hb')
    go_roundg (l0.length - (i + 1))
    case measure => omega
    case rel => exact ⟨i + 1,by omega,Nat.le_refl _,by go_num,HB2,⟨I2.out⟩⟩
  ·obtain rfl : i = l0.length := by omega
   have hltz : ¬ (l0.length : Int) < (l0.length : Int) := by omega
   have I2 : Aside0 (idx = -1) := ⟨by rw [← I.out,Nat.sub_self]; rfl⟩
   clear I
   go_wp2
   go_ret
   exact ⟨by rw [I2.out]; rfl,HB.out⟩
set_option maxHeartbeats 2000000 in
set_option maxRecDepth 100000 in
theorem cont_entry (g : Nat) (lb : Array Value) (eg : ∀ args w,(callFunc g args).run Tryd.prog w = .ok (.enter g args) w) (p : Nat → Bool) (A0 : Option Addr) (c0 : Nat) (l0 : List S84) (w : World) (hr0 : Kd.C k84 w A0 l0.length l0) (hsz : l0.length ≤ 140737488351232)
  (hp : ∀ (W : World) (i : Nat),i < l0.length → Below w.heap.size w W → Calls Tryd.prog g (#[.agg #[.int .i64 (l0.getD i z84).f0,.int .i64 (l0.getD i z84).f1,.int .i64 (l0.getD i z84).f2,.string (l0.getD i z84).f3]] ++ lb) W fun e w' => e = .returned (.bool (p i)) ∧ Below w.heap.size w w') :
  Calls Tryd.prog 89 #[.slice A0 l0.length c0,.func (.func g) #[] lb] w fun e w' => e = .returned (.bool ((List.range' 0 l0.length).any p)) ∧ Below w.heap.size w w' := by
 rw [← idxP_some p l0.length 0]
 have hcon := Aside0.mk (idx_entry g lb eg p A0 c0 l0 w hr0 hsz hp)
 clear hr0 hp
 generalize idxP p l0.length 0 = n at hcon ⊢
 generalize l0.length = m at hcon ⊢
 go_enter Tryd.func89,Tryd.ntmps89
 go_wp2_with (go_at_call 106; refine hcon.out.mono ?_; rintro e w' ⟨rfl,hb⟩; have HB := Aside0.mk hb; clear hb)
 go_ret
 exact ⟨rfl,HB.out⟩
set_option maxHeartbeats 2000000 in
set_option maxRecDepth 100000 in
theorem all_one (h : Nat) (lb : Array Value) (eh : ∀ args w,(callFunc h args).run Tryd.prog w = .ok (.enter h args) w) (b : Bool) (x0 x1 x2 : Int) (x3 : ByteArray) (w W : World) (B : Nat) (hB : w.heap.size ≤ B) (hb0 : Below w.heap.size w W) (hc : W.cell? ⟨B,0,none⟩ = some (.func (.func h) #[] lb))
  (hh : ∀ (W' : World),Below w.heap.size w W' → Calls Tryd.prog h (#[.agg #[.int .i64 x0,.int .i64 x1,.int .i64 x2,.string x3]] ++ lb) W' fun e w' => e = .returned (.bool b) ∧ Below W'.heap.size W' w') :
  Calls Tryd.prog 90 (#[.agg #[.int .i64 x0,.int .i64 x1,.int .i64 x2,.string x3]] ++ #[.pointer (some ⟨B,0,none⟩)]) W fun e w' => e = .returned (.bool (!b)) ∧ Below W.heap.size W w' := by
 have HB := Aside0.mk (Below.refl W.heap.size W)
 have HW := Aside0.mk hb0
 have HH := Aside0.mk hh
 have u84 := Tryd.underlying84
 clear hh hb0
 show Calls Tryd.prog 90 #[.agg #[.int .i64 x0,.int .i64 x1,.int .i64 x2,.string x3],.pointer (some ⟨B,0,none⟩)] W _
 go_enter Tryd.func90,Tryd.ntmps90
 go_wp2_with (first
  | ((with_reducible refine gate_dst (N:=2) rfl ?_); refine box_event ?hg (N:=2) ?hd (cs := #[.int .i64 x0,.int .i64 x1,.int .i64 x2,.string x3]) (t:=84) ?hr ?_; (case hd => rfl); (case hg => rfl); (case hr => first | (go_simp; done) | (go_simp; rfl)); intro gb hg w7 hbox hb; have HB1 := Aside0.mk (below_step HB.out hb); have HW1 := Aside0.mk (below_step HW.out hb); replace hc := (hb.cell (World.block_lt_of_cell? _ _ hc)).trans hc; have hcE : w7.cell? ⟨gb,0,none⟩ = some (.int .i64 x0) := (blk_cell hbox 0).trans rfl; have hcF : w7.cell? ⟨gb,1,none⟩ = some (.int .i64 x1) := (blk_cell hbox 1).trans rfl; have hcG : w7.cell? ⟨gb,2,none⟩ = some (.int .i64 x2) := (blk_cell hbox 2).trans rfl; have hcH : w7.cell? ⟨gb,3,none⟩ = some (.string x3) := (blk_cell hbox 3).trans rfl; clear hb hbox hg)
  | (go_at_fn h; refine (HH.out _ (by repeat (first | (with_reducible exact HW1.out) | apply below_alloc | apply pw_below_drewN | apply below_drew1))).mono ?_; rintro e w9 ⟨rfl,hb⟩; have HB2 := Aside0.mk (Below.trans (by repeat (first | (with_reducible exact HB1.out) | apply below_alloc | apply pw_below_drewN | apply below_drew1)) (hb.mono (by exact HB1.out.size)) : Below W.heap.size W w9); clear hb))
 go_ret
 exact ⟨rfl,HB2.out⟩
set_option maxHeartbeats 2000000 in
set_option maxRecDepth 100000 in
theorem all_entry (h : Nat) (lb : Array Value) (eh : ∀ args w,(callFunc h args).run Tryd.prog w = .ok (.enter h args) w) (q : S84 → Bool) (A0 : Option Addr) (c0 : Nat) (l0 : List S84) (w : World) (hr0 : Kd.C k84 w A0 l0.length l0) (hsz : l0.length ≤ 140737488351232)
  (hq : ∀ (W : World) (i : Nat),i < l0.length → Below w.heap.size w W → Calls Tryd.prog h (#[.agg #[.int .i64 (l0.getD i z84).f0,.int .i64 (l0.getD i z84).f1,.int .i64 (l0.getD i z84).f2,.string (l0.getD i z84).f3]] ++ lb) W fun e w' => e = .returned (.bool (q (l0.getD i z84))) ∧ Below W.heap.size W w') :
  Calls Tryd.prog 56 #[.slice A0 l0.length c0,.func (.func h) #[] lb] w fun e w' => e = .returned (.bool (l0.all q)) ∧ Below w.heap.size w w' := by
 rw [← allAt_eq]
 unfold allAt
 have eg : ∀ args w,(callFunc 90 args).run Tryd.prog w = .ok (.enter 90 args) w := enters_of Tryd.func90 (by kernel_rfl) rfl
 have hal : Below w.heap.size w (w.alloc (.cells #[.func (.func h) #[] lb] 95)) := (Below.refl _ w).alloc (Nat.le_refl _) _
 have hcon := Aside0.mk (cont_entry 90 #[.pointer (some ⟨w.heap.size,0,none⟩)] eg (fun i => !(q (l0.getD i z84))) A0 c0 l0 (w.alloc (.cells #[.func (.func h) #[] lb] 95)) (Kd.C_below hr0 hal) hsz (fun W i hi hb => by
  have hsz1 : (w.alloc (.cells #[.func (.func h) #[] lb] 95)).heap.size = w.heap.size + 1 := by simp
  have hW : Below w.heap.size w W := hal.trans (hb.mono (by omega))
  refine (all_one h lb eh (q (l0.getD i z84)) _ _ _ _ w W w.heap.size (Nat.le_refl _) hW ((hb.cell (p:=⟨w.heap.size,0,none⟩) (by simp)).trans (by simp)) (fun W' hW' => hq W' i hi hW')).mono ?_
  rintro e w' ⟨he,hb'⟩
  exact ⟨he,hb.trans (hb'.mono hb.size)⟩))
 clear hr0 hq
 generalize ((List.range' 0 l0.length).any fun i => !(q (l0.getD i z84))) = a at hcon ⊢
 generalize l0.length = n at hcon ⊢
 have HAL := Aside0.mk hal
 clear hal
 go_enter Tryd.func56,Tryd.ntmps56
 go_wp2_with (go_at_call 89; refine hcon.out.mono ?_; rintro e w' ⟨rfl,hb⟩; have HB2 := Aside0.mk hb; clear hb)
 go_ret
 exact ⟨rfl,HAL.out.trans (HB2.out.mono HAL.out.size)⟩
def okE (k : Nat) (x : S84) : Option Bool := impl_entryOK.f k x.f0 x.f1 x.f2 x.f3
def impl_Entry.f (k : Nat) (l0 : List S84) : Option Bool := if (l0.all fun x => (okE k x).isSome) = true ∧ l0.length ≤ 140737488351232 then some (l0.all fun x => okE k x == some true) else none
theorem impl_Entry.mono : ∀ l0 k,LeO (impl_Entry.f k l0) (impl_Entry.f (k + 1) l0) := by
 intro l0 k r h
 unfold impl_Entry.f at h ⊢
 split at h
 ·rename_i hh
  obtain ⟨h1,h2⟩ := hh
  have hm : ∀ x ∈ l0,okE (k + 1) x = okE k x := fun x hx => by
   have := List.all_eq_true.1 h1 x hx
   obtain ⟨b,hb⟩ := Option.isSome_iff_exists.1 this
   rw [hb]
   exact impl_entryOK.mono _ _ _ _ k b hb
  have e1 : (l0.all fun x => (okE (k + 1) x).isSome) = true := by
   rw [List.all_eq_true]
   intro x hx
   rw [hm x hx]
   exact List.all_eq_true.1 h1 x hx
  have e2 : (l0.all fun x => okE (k + 1) x == some true) = l0.all fun x => okE k x == some true := by
   rw [Bool.eq_iff_iff,List.all_eq_true,List.all_eq_true]
   exact ⟨fun h x hx => by rw [← hm x hx]; exact h x hx,fun h x hx => by rw [hm x hx]; exact h x hx⟩
  rw [if_pos ⟨e1,h2⟩,e2]
  exact h
 ·cases h
set_option maxHeartbeats 2000000 in
theorem impl_Entry.calls (k : Nat) (A0 : Option Addr) (c0 : Nat) (l0 : List S84) (r : Bool) (w : World) (hV : Vars w) (hr0 : Kd.C k84 w A0 l0.length l0) (hc0 : l0.length ≤ c0) (h : impl_Entry.f k l0 = some r) :
  Calls Tryd.prog 56 #[.slice A0 l0.length c0,.func (.func 57) #[] #[]] w fun e w' => e = .returned (.bool r) ∧ Below w.heap.size w w' := by
 unfold impl_Entry.f at h
 split at h
 ·rename_i hh
  obtain ⟨h1,h2⟩ := hh
  obtain rfl := Option.some.inj h
  exact all_entry 57 #[] (enters_of Tryd.func57 (by kernel_rfl) rfl) (fun x => okE k x == some true) A0 c0 l0 w hr0 h2 (fun W i hi hb => by
   have hx : l0.getD i z84 ∈ l0 := by rw [List.getD_eq_getElem?_getD,List.getElem?_eq_getElem hi]; exact List.getElem_mem hi
   obtain ⟨b,hb1⟩ := Option.isSome_iff_exists.1 (List.all_eq_true.1 h1 _ hx)
   refine (impl_entryOK.calls k _ _ _ _ b W (hV.below hb) hb1).mono ?_
   rintro e w' ⟨he,hb2⟩
   refine ⟨?_,hb2⟩
   rw [he,hb1]
   cases b <;> rfl)
 ·cases h

/-! ### impl_isValue: function 107 -/
def impl_isValue.f (a0 : Int) : Option (Bool) := (impl_within.f a0 (-1000000) 1000000).bind fun t278 => (some t278)
set_option maxHeartbeats 8000000 in
set_option maxRecDepth 100000 in
theorem impl_isValue.calls (a0 : Int) (r : Bool) (w : World) (h : impl_isValue.f a0 = some r) :
  Calls Tryd.prog 107 #[.int .i64 a0] w fun e w' => e = .returned (.bool r) ∧ Drawn0 w w' := by
 have H : ((impl_within.f a0 (-1000000) 1000000).bind fun t278 => (some t278)) = some r := h
 clear h
 replace H := Option.bind_eq_some_iff.mp H
 obtain ⟨t278,A20,H⟩ := H
 try dsimp only at H
 have A2 := Aside0.mk A20
 clear A20
 obtain rfl := Option.some.inj H
 go_enter Tryd.func107,Tryd.ntmps107
 go_wp2_with (first | ((with_reducible refine gate_callee (f:=54) rfl ?_); refine goesL_ (some 4) rfl rfl Tryd.func54 (by kernel_rfl) rfl #[.int .i64 a0,.int .i64 (-1000000),.int .i64 1000000] rfl mA ?_; (with_reducible refine (impl_within.calls a0 (-1000000) 1000000 t278 _ A2.out).mono ?_); rintro e w' ⟨rfl,⟨nd,rfl⟩⟩; refine ⟨_,rfl,?_⟩))
 go_ret
 exact ⟨by first | rfl | (simp; done) | (simp [*]; done),by repeat (first | exact Drawn0.refl _ | apply Drawn0.step)⟩

end Go.Proofs.YtleifhnoaaphmaaDoor.XFnExactWorkerOK
