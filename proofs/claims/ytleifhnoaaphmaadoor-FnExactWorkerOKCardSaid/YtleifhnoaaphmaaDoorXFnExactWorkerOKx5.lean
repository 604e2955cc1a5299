-- Printed by this session's own program wip/tools/xprint.py, which widens the kit's print. Not trusted: Lean checks it.
import Derived.Test.YtleifhnoaaphmaaDoorXFnExactWorkerOKx0
import Derived.Test.YtleifhnoaaphmaaDoorXFnExactWorkerOKx1
import Derived.Test.YtleifhnoaaphmaaDoorXFnExactWorkerOKx2
import Derived.Test.YtleifhnoaaphmaaDoorXFnExactWorkerOKx4
namespace Go.Proofs.YtleifhnoaaphmaaDoor.XFnExactWorkerOK
open List (setIfInBounds_toArray set_cons_zero set_cons_succ)
open Go.RowKit Go.Proofs.YtleifhnoaaphmaaDoorW.PrintWords Go.Proofs.YtleifhnoaaphmaaDoorW.PrintLast Go.Proofs.YtleifhnoaaphmaaDoorW.PrintMore
attribute [local go_sem] max2_int min2_int max_two min_two max_three min_three max_four min_four   -- for this text's walks alone
set_option linter.unusedVariables false
set_option linter.unusedSimpArgs false

attribute [local go_sem high] eqA49
/-! ### spec_RecordOK: function 48 -/
def spec_RecordOK.j0 : Nat → Bool → Int → Int → Int → Int → Int → ByteArray → Option (Bool)
 | 0,_,_,_,_,_,_,_ => none
 | k + 1,x3,x163000,x163001,x163002,x163003,x163004,x163005 => if x163000 = 1 then (if x163001 = 0 then (if x163002 = 0 then ((spec_l06Tiered.f k x163000 x163001 x163002 x163003 x163004 x163005 0).bind fun t163 => (some t163)) else (some false)) else (some false)) else (if x163000 = 2 then ((spec_l01In.f x163001 1 999999).bind fun t164 => (if t164 = true then (if x3 = true then (some (x163005.toList == ([] : List UInt8))) else (some false)) else (some false))) else (if x163000 = 3 then ((spec_l01In.f x163001 1 999999).bind fun t165 => (if t165 = true then ((spec_l06Tiered.f k x163000 x163001 x163002 x163003 x163004 x163005 1).bind fun t166 => (some t166)) else (some false))) else (if x163000 = 4 then ((spec_l01In.f x163001 1 999999).bind fun t167 => (if t167 = true then ((spec_l06Tiered.f k x163000 x163001 x163002 x163003 x163004 x163005 0).bind fun t168 => (some t168)) else (some false))) else (if x163000 = 5 then ((spec_l03ToKey.f k x163005).bind fun bt169 => (if x163001 = 0 then (if x3 = true then (some bt169.2.2.2) else (some false)) else (some false))) else (some false)))))
def spec_RecordOK.f (k : Nat) (a0_0 : Int) (a0_1 : Int) (a0_2 : Int) (a0_3 : Int) (a0_4 : Int) (a0_5 : ByteArray) : Option (Bool) := if a0_2 = 0 then (if a0_3 = 0 then (spec_RecordOK.j0 k (a0_4 == 0) a0_0 a0_1 a0_2 a0_3 a0_4 a0_5) else (spec_RecordOK.j0 k false a0_0 a0_1 a0_2 a0_3 a0_4 a0_5)) else (spec_RecordOK.j0 k false a0_0 a0_1 a0_2 a0_3 a0_4 a0_5)
theorem spec_RecordOK.mono_l : ∀ k,(∀ y0 y1 y2 y3 y4 y5 y6,LeO (spec_RecordOK.j0 k y0 y1 y2 y3 y4 y5 y6) (spec_RecordOK.j0 (k + 1) y0 y1 y2 y3 y4 y5 y6))
 | 0 => fun _ _ _ _ _ _ _ r h => by simp [spec_RecordOK.j0] at h
 | k + 1 => by
  have ih0 := spec_RecordOK.mono_l k
  ·intro y0 y1 y2 y3 y4 y5 y6
   unfold spec_RecordOK.j0
   repeat' first
   | (with_reducible exact ih0 _ _ _ _ _ _ _)
   | (with_reducible exact spec_l03ToKey.mono _ _)
   | (with_reducible exact spec_l06Tiered.mono _ _ _ _ _ _ _ _)
   | (with_reducible exact LeO.refl _)
   | (with_reducible exact LeO.none _)
   | (with_reducible refine LeO.ite ?_ ?_)
   | (with_reducible refine LeO.bind ?_ (fun _ => ?_))
   | exact ih0 _ _ _ _ _ _ _
   | exact spec_l03ToKey.mono _ _
   | exact spec_l06Tiered.mono _ _ _ _ _ _ _ _
   | exact LeO.none _
   | refine LeO.ite ?_ ?_
   | refine LeO.bind ?_ (fun _ => ?_)
theorem spec_RecordOK.mono : ∀ a0 a1 a2 a3 a4 a5 k,LeO (spec_RecordOK.f k a0 a1 a2 a3 a4 a5) (spec_RecordOK.f (k + 1) a0 a1 a2 a3 a4 a5) := by
 intro a0 a1 a2 a3 a4 a5 k
 have ih0 := spec_RecordOK.mono_l k
 unfold spec_RecordOK.f
 repeat' first
   | (with_reducible exact ih0 _ _ _ _ _ _ _)
   | (with_reducible exact spec_l03ToKey.mono _ _)
   | (with_reducible exact spec_l06Tiered.mono _ _ _ _ _ _ _ _)
   | (with_reducible exact LeO.refl _)
   | (with_reducible exact LeO.none _)
   | (with_reducible refine LeO.ite ?_ ?_)
   | (with_reducible refine LeO.bind ?_ (fun _ => ?_))
   | exact ih0 _ _ _ _ _ _ _
   | exact spec_l03ToKey.mono _ _
   | exact spec_l06Tiered.mono _ _ _ _ _ _ _ _
   | exact LeO.none _
   | refine LeO.ite ?_ ?_
   | refine LeO.bind ?_ (fun _ => ?_)
set_option maxHeartbeats 8000000 in
set_option maxRecDepth 100000 in
theorem spec_RecordOK.calls (k : Nat) (a0_0 : Int) (a0_1 : Int) (a0_2 : Int) (a0_3 : Int) (a0_4 : Int) (a0_5 : ByteArray) (r : Bool) (w : World) (h : spec_RecordOK.f k a0_0 a0_1 a0_2 a0_3 a0_4 a0_5 = some r) :
  Calls Tryd.prog 48 #[.agg #[.int .i64 a0_0,.int .i64 a0_1,.int .i64 a0_2,.int .i64 a0_3,.int .i64 a0_4,.string a0_5]] w fun e w' => e = .returned (.bool r) ∧ Below w.heap.size w w' := by
 have hu47 := Tryd.underlying47
 have HB := Aside0.mk (Below.refl w.heap.size w)
 have H : (if a0_2 = 0 then (if a0_3 = 0 then (spec_RecordOK.j0 k (a0_4 == 0) a0_0 a0_1 a0_2 a0_3 a0_4 a0_5) else (spec_RecordOK.j0 k false a0_0 a0_1 a0_2 a0_3 a0_4 a0_5)) else (spec_RecordOK.j0 k false a0_0 a0_1 a0_2 a0_3 a0_4 a0_5)) = some r := h
 clear h
 have HC2 := Aside0.mk H
 clear H
 go_enter Tryd.func48,Tryd.ntmps48
 go_upto_region 1 with (first | ((with_reducible refine gate_dst (N:=1) rfl ?_); refine box_event ?hg (N:=1) ?hd (cs := #[.int .i64 a0_0,.int .i64 a0_1,.int .i64 a0_2,.int .i64 a0_3,.int .i64 a0_4,.string a0_5]) (t:=47) ?hr ?_; (case hd => rfl); (case hg => rfl); (case hr => first | (go_simp; done) | (go_simp; rfl)); intro gb162 hg w3 hbox hb; have n0_ := Aside0.mk (below_step bA hb); have n1_ := Aside0.mk (hbox); have n2_ := Aside0.mk ((by rw [hg]; exact (below_size bA) : w.heap.size ≤ gb162)); have n3_ := Aside0.mk ((by rw [hg]; exact (below_size bA) : w.heap.size ≤ gb162)); clear HB; have HB := n0_; have BK162 := n1_; have GW162 := n2_; have GE162 := n3_; clear n0_ n1_ n2_ n3_; clear hb hbox hg))
 (try simp only [Act.put,setIfInBounds_toArray,set_cons_zero,set_cons_succ])
 go_cut [3] (fun v3 wc => ∃ (kq : Nat) (x3_1 : Bool),v3 = .bool x3_1 ∧ Aside0 (spec_RecordOK.j0 kq x3_1 a0_0 a0_1 a0_2 a0_3 a0_4 a0_5 = some r) ∧ Aside0 (kq ≤ k) ∧ Aside0 (wc.heap[gb162]? = some (.cells #[.int .i64 a0_0,.int .i64 a0_1,.int .i64 a0_2,.int .i64 a0_3,.int .i64 a0_4,.string a0_5] 47 (0,0))) ∧ Aside0 (Below w.heap.size w wc))
 case first =>
  have H := HC2.out
  clear HC2
  by_cases c4 : a0_2 = 0
  ·rw [if_pos c4] at H
   have c4b0 : (a0_2 == 0) = true := beq_iff_eq.mpr c4
   have c4b1 : (a0_2 != 0) = false := bne_eq_false_iff_eq.mpr c4
   clear c4
   (first | rw [c4b0] | (simp only [i64_w,i32_w]; rw [c4b0]) | skip)
   by_cases c5 : a0_3 = 0
   ·rw [if_pos c5] at H
    have c5b0 : (a0_3 == 0) = true := beq_iff_eq.mpr c5
    have c5b1 : (a0_3 != 0) = false := bne_eq_false_iff_eq.mpr c5
    clear c5
    have H' := Aside0.mk H
    clear H
    have hcz6_0 : w3.cell? ⟨gb162,0,none⟩ = some (.int .i64 a0_0) := (blk_cell BK162.out 0).trans rfl
    have hcz6_1 : w3.cell? ⟨gb162,1,none⟩ = some (.int .i64 a0_1) := (blk_cell BK162.out 1).trans rfl
    have hcz6_2 : w3.cell? ⟨gb162,2,none⟩ = some (.int .i64 a0_2) := (blk_cell BK162.out 2).trans rfl
    have hcz6_3 : w3.cell? ⟨gb162,3,none⟩ = some (.int .i64 a0_3) := (blk_cell BK162.out 3).trans rfl
    have hcz6_4 : w3.cell? ⟨gb162,4,none⟩ = some (.int .i64 a0_4) := (blk_cell BK162.out 4).trans rfl
    have hcz6_5 : w3.cell? ⟨gb162,5,none⟩ = some (.string a0_5) := (blk_cell BK162.out 5).trans rfl
    have hfz6_0 := blk_frozen BK162.out 0
    have hfz6_1 := blk_frozen BK162.out 1
    have hfz6_2 := blk_frozen BK162.out 2
    have hfz6_3 := blk_frozen BK162.out 3
    have hfz6_4 := blk_frozen BK162.out 4
    have hfz6_5 := blk_frozen BK162.out 5
    go_wp2
    go_meet
    case rel => exact ⟨_,((a0_4 == 0)),(by first | rfl | (simp; done) | (simp [*]; done)),H',⟨by first | omega | exact Nat.le_refl _⟩,⟨kA BK162.out⟩,⟨bA⟩⟩
   ·rw [if_neg c5] at H
    have c5b0 : (a0_3 == 0) = false := beq_eq_false_iff_ne.mpr c5
    have c5b1 : (a0_3 != 0) = true := bne_iff_ne.mpr c5
    have H' := Aside0.mk H
    clear H
    have hcz7_0 : w3.cell? ⟨gb162,0,none⟩ = some (.int .i64 a0_0) := (blk_cell BK162.out 0).trans rfl
    have hcz7_1 : w3.cell? ⟨gb162,1,none⟩ = some (.int .i64 a0_1) := (blk_cell BK162.out 1).trans rfl
    have hcz7_2 : w3.cell? ⟨gb162,2,none⟩ = some (.int .i64 a0_2) := (blk_cell BK162.out 2).trans rfl
    have hcz7_3 : w3.cell? ⟨gb162,3,none⟩ = some (.int .i64 a0_3) := (blk_cell BK162.out 3).trans rfl
    have hcz7_4 : w3.cell? ⟨gb162,4,none⟩ = some (.int .i64 a0_4) := (blk_cell BK162.out 4).trans rfl
    have hcz7_5 : w3.cell? ⟨gb162,5,none⟩ = some (.string a0_5) := (blk_cell BK162.out 5).trans rfl
    have hfz7_0 := blk_frozen BK162.out 0
    have hfz7_1 := blk_frozen BK162.out 1
    have hfz7_2 := blk_frozen BK162.out 2
    have hfz7_3 := blk_frozen BK162.out 3
    have hfz7_4 := blk_frozen BK162.out 4
    have hfz7_5 := blk_frozen BK162.out 5
    go_wp2
    go_meet
    case rel => exact ⟨_,(false),(by first | rfl | (simp; done) | (simp [*]; done)),H',⟨by first | omega | exact Nat.le_refl _⟩,⟨kA BK162.out⟩,⟨bA⟩⟩
  ·rw [if_neg c4] at H
   have c4b0 : (a0_2 == 0) = false := beq_eq_false_iff_ne.mpr c4
   have c4b1 : (a0_2 != 0) = true := bne_iff_ne.mpr c4
   (first | rw [c4b0] | (simp only [i64_w,i32_w]; rw [c4b0]) | skip)
   have H' := Aside0.mk H
   clear H
   have hcz8_0 : w3.cell? ⟨gb162,0,none⟩ = some (.int .i64 a0_0) := (blk_cell BK162.out 0).trans rfl
   have hcz8_1 : w3.cell? ⟨gb162,1,none⟩ = some (.int .i64 a0_1) := (blk_cell BK162.out 1).trans rfl
   have hcz8_2 : w3.cell? ⟨gb162,2,none⟩ = some (.int .i64 a0_2) := (blk_cell BK162.out 2).trans rfl
   have hcz8_3 : w3.cell? ⟨gb162,3,none⟩ = some (.int .i64 a0_3) := (blk_cell BK162.out 3).trans rfl
   have hcz8_4 : w3.cell? ⟨gb162,4,none⟩ = some (.int .i64 a0_4) := (blk_cell BK162.out 4).trans rfl
   have hcz8_5 : w3.cell? ⟨gb162,5,none⟩ = some (.string a0_5) := (blk_cell BK162.out 5).trans rfl
   have hfz8_0 := blk_frozen BK162.out 0
   have hfz8_1 := blk_frozen BK162.out 1
   have hfz8_2 := blk_frozen BK162.out 2
   have hfz8_3 := blk_frozen BK162.out 3
   have hfz8_4 := blk_frozen BK162.out 4
   have hfz8_5 := blk_frozen BK162.out 5
   go_wp2
   go_meet
   case rel => exact ⟨_,(false),(by first | rfl | (simp; done) | (simp [*]; done)),H',⟨by first | omega | exact Nat.le_refl _⟩,⟨kA BK162.out⟩,⟨bA⟩⟩
 case rest =>
  clear HC2
  try clear p2
  try clear c4
  try clear c4b0
  try clear c4b1
  try clear c5
  try clear c5b0
  try clear c5b1
  try clear hcz6_0
  try clear hcz6_1
  try clear hcz6_2
  try clear hcz6_3
  try clear hcz6_4
  try clear hcz6_5
  try clear hcz7_0
  try clear hcz7_1
  try clear hcz7_2
  try clear hcz7_3
  try clear hcz7_4
  try clear hcz7_5
  try clear hcz8_0
  try clear hcz8_1
  try clear hcz8_2
  try clear hcz8_3
  try clear hcz8_4
  try clear hcz8_5
  try clear hfz6_0
  try clear hfz6_1
  try clear hfz6_2
  try clear hfz6_3
  try clear hfz6_4
  try clear hfz6_5
  try clear hfz7_0
  try clear hfz7_1
  try clear hfz7_2
  try clear hfz7_3
  try clear hfz7_4
  try clear hfz7_5
  try clear hfz8_0
  try clear hfz8_1
  try clear hfz8_2
  try clear hfz8_3
  try clear hfz8_4
  try clear hfz8_5
  obtain ⟨kq,x3_1,rfl,HA,HJ1,BK162,HB⟩ := hcut
  cases kq with
  | zero => exact absurd HA.out (by simp [spec_RecordOK.j0])
  | succ kj1 =>
   have H := HA.out
   clear HA
   simp only [spec_RecordOK.j0] at H
   by_cases c9 : a0_0 = 1
   ·rw [if_pos c9] at H
    have c9b0 : (a0_0 == 1) = true := beq_iff_eq.mpr c9
    have c9b1 : (a0_0 != 1) = false := bne_eq_false_iff_eq.mpr c9
    clear c9
    by_cases c10 : a0_1 = 0
    ·rw [if_pos c10] at H
     have c10b0 : (a0_1 == 0) = true := beq_iff_eq.mpr c10
     have c10b1 : (a0_1 != 0) = false := bne_eq_false_iff_eq.mpr c10
     clear c10
     by_cases c11 : a0_2 = 0
     ·rw [if_pos c11] at H
      have c11b0 : (a0_2 == 0) = true := beq_iff_eq.mpr c11
      have c11b1 : (a0_2 != 0) = false := bne_eq_false_iff_eq.mpr c11
      clear c11
      replace H := Option.bind_eq_some_iff.mp H
      obtain ⟨t163,A120,H⟩ := H
      try dsimp only at H
      have A12 := Aside0.mk A120
      clear A120
      obtain rfl := Option.some.inj H
      have hcz13_0 : wc.cell? ⟨gb162,0,none⟩ = some (.int .i64 a0_0) := (blk_cell BK162.out 0).trans rfl
      have hcz13_1 : wc.cell? ⟨gb162,1,none⟩ = some (.int .i64 a0_1) := (blk_cell BK162.out 1).trans rfl
      have hcz13_2 : wc.cell? ⟨gb162,2,none⟩ = some (.int .i64 a0_2) := (blk_cell BK162.out 2).trans rfl
      have hcz13_3 : wc.cell? ⟨gb162,3,none⟩ = some (.int .i64 a0_3) := (blk_cell BK162.out 3).trans rfl
      have hcz13_4 : wc.cell? ⟨gb162,4,none⟩ = some (.int .i64 a0_4) := (blk_cell BK162.out 4).trans rfl
      have hcz13_5 : wc.cell? ⟨gb162,5,none⟩ = some (.string a0_5) := (blk_cell BK162.out 5).trans rfl
      have hfz13_0 := blk_frozen BK162.out 0
      have hfz13_1 := blk_frozen BK162.out 1
      have hfz13_2 := blk_frozen BK162.out 2
      have hfz13_3 := blk_frozen BK162.out 3
      have hfz13_4 := blk_frozen BK162.out 4
      have hfz13_5 := blk_frozen BK162.out 5
      go_wp2_with (first | (go_at_call 45; (with_reducible refine (spec_l06Tiered.calls kj1 a0_0 a0_1 a0_2 a0_3 a0_4 a0_5 0 t163 _ A12.out).mono ?_); rintro e w14 ⟨rfl,hb⟩; have n0_ := Aside0.mk (blk_below (g:=gb162) (o:=.cells #[.int .i64 a0_0,.int .i64 a0_1,.int .i64 a0_2,.int .i64 a0_3,.int .i64 a0_4,.string a0_5] 47 (0,0)) (kA BK162.out) hb); have n1_ := Aside0.mk (below_step bA hb); clear BK162; clear HB; have BK162 := n0_; have HB := n1_; clear n0_ n1_; (try clear hb); (try clear hb2); (try clear hk); (try clear hi)))
      go_ret
      exact ⟨by first | rfl | (simp [errW_none,errW_some] <;> rfl) | (simp [*,errW_none,errW_some] <;> rfl),bA⟩
     ·rw [if_neg c11] at H
      have c11b0 : (a0_2 == 0) = false := beq_eq_false_iff_ne.mpr c11
      have c11b1 : (a0_2 != 0) = true := bne_iff_ne.mpr c11
      obtain rfl := Option.some.inj H
      have hcz15_0 : wc.cell? ⟨gb162,0,none⟩ = some (.int .i64 a0_0) := (blk_cell BK162.out 0).trans rfl
      have hcz15_1 : wc.cell? ⟨gb162,1,none⟩ = some (.int .i64 a0_1) := (blk_cell BK162.out 1).trans rfl
      have hcz15_2 : wc.cell? ⟨gb162,2,none⟩ = some (.int .i64 a0_2) := (blk_cell BK162.out 2).trans rfl
      have hcz15_3 : wc.cell? ⟨gb162,3,none⟩ = some (.int .i64 a0_3) := (blk_cell BK162.out 3).trans rfl
      have hcz15_4 : wc.cell? ⟨gb162,4,none⟩ = some (.int .i64 a0_4) := (blk_cell BK162.out 4).trans rfl
      have hcz15_5 : wc.cell? ⟨gb162,5,none⟩ = some (.string a0_5) := (blk_cell BK162.out 5).trans rfl
      have hfz15_0 := blk_frozen BK162.out 0
      have hfz15_1 := blk_frozen BK162.out 1
      have hfz15_2 := blk_frozen BK162.out 2
      have hfz15_3 := blk_frozen BK162.out 3
      have hfz15_4 := blk_frozen BK162.out 4
      have hfz15_5 := blk_frozen BK162.out 5
      go_wp2
      go_ret
      exact ⟨by first | rfl | (simp [errW_none,errW_some] <;> rfl) | (simp [*,errW_none,errW_some] <;> rfl),bA⟩
    ·rw [if_neg c10] at H
     have c10b0 : (a0_1 == 0) = false := beq_eq_false_iff_ne.mpr c10
     have c10b1 : (a0_1 != 0) = true := bne_iff_ne.mpr c10
     obtain rfl := Option.some.inj H
     have hcz16_0 : wc.cell? ⟨gb162,0,none⟩ = some (.int .i64 a0_0) := (blk_cell BK162.out 0).trans rfl
     have hcz16_1 : wc.cell? ⟨gb162,1,none⟩ = some (.int .i64 a0_1) := (blk_cell BK162.out 1).trans rfl
     have hcz16_2 : wc.cell? ⟨gb162,2,none⟩ = some (.int .i64 a0_2) := (blk_cell BK162.out 2).trans rfl
     have hcz16_3 : wc.cell? ⟨gb162,3,none⟩ = some (.int .i64 a0_3) := (blk_cell BK162.out 3).trans rfl
     have hcz16_4 : wc.cell? ⟨gb162,4,none⟩ = some (.int .i64 a0_4) := (blk_cell BK162.out 4).trans rfl
     have hcz16_5 : wc.cell? ⟨gb162,5,none⟩ = some (.string a0_5) := (blk_cell BK162.out 5).trans rfl
     have hfz16_0 := blk_frozen BK162.out 0
     have hfz16_1 := blk_frozen BK162.out 1
     have hfz16_2 := blk_frozen BK162.out 2
     have hfz16_3 := blk_frozen BK162.out 3
     have hfz16_4 := blk_frozen BK162.out 4
     have hfz16_5 := blk_frozen BK162.out 5
     go_wp2
     go_ret
     exact ⟨by first | rfl | (simp [errW_none,errW_some] <;> rfl) | (simp [*,errW_none,errW_some] <;> rfl),bA⟩
   ·rw [if_neg c9] at H
    have c9b0 : (a0_0 == 1) = false := beq_eq_false_iff_ne.mpr c9
    have c9b1 : (a0_0 != 1) = true := bne_iff_ne.mpr c9
    by_cases c17 : a0_0 = 2
    ·rw [if_pos c17] at H
     have c17b0 : (a0_0 == 2) = true := beq_iff_eq.mpr c17
     have c17b1 : (a0_0 != 2) = false := bne_eq_false_iff_eq.mpr c17
     clear c17
     replace H := Option.bind_eq_some_iff.mp H
     obtain ⟨t164,A180,H⟩ := H
     try dsimp only at H
     have A18 := Aside0.mk A180
     clear A180
     by_cases c19 : t164 = true
     ·subst c19
      rw [if_pos rfl] at H
      by_cases c20 : x3_1 = true
      ·subst c20
       rw [if_pos rfl] at H
       obtain rfl := Option.some.inj H
       have hcz21_0 : wc.cell? ⟨gb162,0,none⟩ = some (.int .i64 a0_0) := (blk_cell BK162.out 0).trans rfl
       have hcz21_1 : wc.cell? ⟨gb162,1,none⟩ = some (.int .i64 a0_1) := (blk_cell BK162.out 1).trans rfl
       have hcz21_2 : wc.cell? ⟨gb162,2,none⟩ = some (.int .i64 a0_2) := (blk_cell BK162.out 2).trans rfl
       have hcz21_3 : wc.cell? ⟨gb162,3,none⟩ = some (.int .i64 a0_3) := (blk_cell BK162.out 3).trans rfl
       have hcz21_4 : wc.cell? ⟨gb162,4,none⟩ = some (.int .i64 a0_4) := (blk_cell BK162.out 4).trans rfl
       have hcz21_5 : wc.cell? ⟨gb162,5,none⟩ = some (.string a0_5) := (blk_cell BK162.out 5).trans rfl
       have hfz21_0 := blk_frozen BK162.out 0
       have hfz21_1 := blk_frozen BK162.out 1
       have hfz21_2 := blk_frozen BK162.out 2
       have hfz21_3 := blk_frozen BK162.out 3
       have hfz21_4 := blk_frozen BK162.out 4
       have hfz21_5 := blk_frozen BK162.out 5
       go_wp2_with (first | ((with_reducible refine gate_callee (f:=46) rfl ?_); refine goesL_ (some 41) rfl rfl Tryd.func46 (by kernel_rfl) rfl #[.int .i64 a0_1,.int .i64 1,.int .i64 999999] rfl mA ?_; (with_reducible refine (spec_l01In.calls a0_1 1 999999 true _ A18.out).mono ?_); rintro e w' ⟨rfl,⟨nd,rfl⟩⟩; refine ⟨_,rfl,?_⟩))
       go_ret
       exact ⟨by first | rfl | (simp [errW_none,errW_some] <;> rfl) | (simp [*,errW_none,errW_some] <;> rfl),bA⟩
      ·replace c20 := Bool.eq_false_iff.mpr c20
       subst c20
       rw [if_neg (show ¬ (false = true) by decide)] at H
       obtain rfl := Option.some.inj H
       have hcz22_0 : wc.cell? ⟨gb162,0,none⟩ = some (.int .i64 a0_0) := (blk_cell BK162.out 0).trans rfl
       have hcz22_1 : wc.cell? ⟨gb162,1,none⟩ = some (.int .i64 a0_1) := (blk_cell BK162.out 1).trans rfl
       have hcz22_2 : wc.cell? ⟨gb162,2,none⟩ = some (.int .i64 a0_2) := (blk_cell BK162.out 2).trans rfl
       have hcz22_3 : wc.cell? ⟨gb162,3,none⟩ = some (.int .i64 a0_3) := (blk_cell BK162.out 3).trans rfl
       have hcz22_4 : wc.cell? ⟨gb162,4,none⟩ = some (.int .i64 a0_4) := (blk_cell BK162.out 4).trans rfl
       have hcz22_5 : wc.cell? ⟨gb162,5,none⟩ = some (.string a0_5) := (blk_cell BK162.out 5).trans rfl
       have hfz22_0 := blk_frozen BK162.out 0
       have hfz22_1 := blk_frozen BK162.out 1
       have hfz22_2 := blk_frozen BK162.out 2
       have hfz22_3 := blk_frozen BK162.out 3
       have hfz22_4 := blk_frozen BK162.out 4
       have hfz22_5 := blk_frozen BK162.out 5
       go_wp2_with (first | ((with_reducible refine gate_callee (f:=46) rfl ?_); refine goesL_ (some 41) rfl rfl Tryd.func46 (by kernel_rfl) rfl #[.int .i64 a0_1,.int .i64 1,.int .i64 999999] rfl mA ?_; (with_reducible refine (spec_l01In.calls a0_1 1 999999 true _ A18.out).mono ?_); rintro e w' ⟨rfl,⟨nd,rfl⟩⟩; refine ⟨_,rfl,?_⟩))
       go_ret
       exact ⟨by first | rfl | (simp [errW_none,errW_some] <;> rfl) | (simp [*,errW_none,errW_some] <;> rfl),bA⟩
     ·replace c19 := Bool.eq_false_iff.mpr c19
      subst c19
      rw [if_neg (show ¬ (false = true) by decide)] at H
      obtain rfl := Option.some.inj H
      have hcz23_0 : wc.cell? ⟨gb162,0,none⟩ = some (.int .i64 a0_0) := (blk_cell BK162.out 0).trans rfl
      have hcz23_1 : wc.cell? ⟨gb162,1,none⟩ = some (.int .i64 a0_1) := (blk_cell BK162.out 1).trans rfl
      have hcz23_2 : wc.cell? ⟨gb162,2,none⟩ = some (.int .i64 a0_2) := (blk_cell BK162.out 2).trans rfl
      have hcz23_3 : wc.cell? ⟨gb162,3,none⟩ = some (.int .i64 a0_3) := (blk_cell BK162.out 3).trans rfl
      have hcz23_4 : wc.cell? ⟨gb162,4,none⟩ = some (.int .i64 a0_4) := (blk_cell BK162.out 4).trans rfl
      have hcz23_5 : wc.cell? ⟨gb162,5,none⟩ = some (.string a0_5) := (blk_cell BK162.out 5).trans rfl
      have hfz23_0 := blk_frozen BK162.out 0
      have hfz23_1 := blk_frozen BK162.out 1
      have hfz23_2 := blk_frozen BK162.out 2
      have hfz23_3 := blk_frozen BK162.out 3
      have hfz23_4 := blk_frozen BK162.out 4
      have hfz23_5 := blk_frozen BK162.out 5
      go_wp2_with (first | ((with_reducible refine gate_callee (f:=46) rfl ?_); refine goesL_ (some 41) rfl rfl Tryd.func46 (by kernel_rfl) rfl #[.int .i64 a0_1,.int .i64 1,.int .i64 999999] rfl mA ?_; (with_reducible refine (spec_l01In.calls a0_1 1 999999 false _ A18.out).mono ?_); rintro e w' ⟨rfl,⟨nd,rfl⟩⟩; refine ⟨_,rfl,?_⟩))
      go_ret
      exact ⟨by first | rfl | (simp [errW_none,errW_some] <;> rfl) | (simp [*,errW_none,errW_some] <;> rfl),bA⟩
    ·rw [if_neg c17] at H
     have c17b0 : (a0_0 == 2) = false := beq_eq_false_iff_ne.mpr c17
     have c17b1 : (a0_0 != 2) = true := bne_iff_ne.mpr c17
     by_cases c24 : a0_0 = 3
     ·rw [if_pos c24] at H
      have c24b0 : (a0_0 == 3) = true := beq_iff_eq.mpr c24
      have c24b1 : (a0_0 != 3) = false := bne_eq_false_iff_eq.mpr c24
      clear c24
      replace H := Option.bind_eq_some_iff.mp H
      obtain ⟨t165,A250,H⟩ := H
      try dsimp only at H
      have A25 := Aside0.mk A250
      clear A250
      by_cases c26 : t165 = true
      ·subst c26
       rw [if_pos rfl] at H
       replace H := Option.bind_eq_some_iff.mp H
       obtain ⟨t166,A270,H⟩ := H
       try dsimp only at H
       have A27 := Aside0.mk A270
       clear A270
       obtain rfl := Option.some.inj H
       have hcz28_0 : wc.cell? ⟨gb162,0,none⟩ = some (.int .i64 a0_0) := (blk_cell BK162.out 0).trans rfl
       have hcz28_1 : wc.cell? ⟨gb162,1,none⟩ = some (.int .i64 a0_1) := (blk_cell BK162.out 1).trans rfl
       have hcz28_2 : wc.cell? ⟨gb162,2,none⟩ = some (.int .i64 a0_2) := (blk_cell BK162.out 2).trans rfl
       have hcz28_3 : wc.cell? ⟨gb162,3,none⟩ = some (.int .i64 a0_3) := (blk_cell BK162.out 3).trans rfl
       have hcz28_4 : wc.cell? ⟨gb162,4,none⟩ = some (.int .i64 a0_4) := (blk_cell BK162.out 4).trans rfl
       have hcz28_5 : wc.cell? ⟨gb162,5,none⟩ = some (.string a0_5) := (blk_cell BK162.out 5).trans rfl
       have hfz28_0 := blk_frozen BK162.out 0
       have hfz28_1 := blk_frozen BK162.out 1
       have hfz28_2 := blk_frozen BK162.out 2
       have hfz28_3 := blk_frozen BK162.out 3
       have hfz28_4 := blk_frozen BK162.out 4
       have hfz28_5 := blk_frozen BK162.out 5
       go_wp2_with (first | ((with_reducible refine gate_callee (f:=46) rfl ?_); refine goesL_ (some 54) rfl rfl Tryd.func46 (by kernel_rfl) rfl #[.int .i64 a0_1,.int .i64 1,.int .i64 999999] rfl mA ?_; (with_reducible refine (spec_l01In.calls a0_1 1 999999 true _ A25.out).mono ?_); rintro e w' ⟨rfl,⟨nd,rfl⟩⟩; refine ⟨_,rfl,?_⟩) | (go_at_call 45; (with_reducible refine (spec_l06Tiered.calls kj1 a0_0 a0_1 a0_2 a0_3 a0_4 a0_5 1 t166 _ A27.out).mono ?_); rintro e w29 ⟨rfl,hb⟩; have n0_ := Aside0.mk (blk_below (g:=gb162) (o:=.cells #[.int .i64 a0_0,.int .i64 a0_1,.int .i64 a0_2,.int .i64 a0_3,.int .i64 a0_4,.string a0_5] 47 (0,0)) (kA BK162.out) hb); have n1_ := Aside0.mk (below_step bA hb); clear BK162; clear HB; have BK162 := n0_; have HB := n1_; clear n0_ n1_; (try clear hb); (try clear hb2); (try clear hk); (try clear hi)))
       go_ret
       exact ⟨by first | rfl | (simp [errW_none,errW_some] <;> rfl) | (simp [*,errW_none,errW_some] <;> rfl),bA⟩
      ·replace c26 := Bool.eq_false_iff.mpr c26
       subst c26
       rw [if_neg (show ¬ (false = true) by decide)] at H
       obtain rfl := Option.some.inj H
       have hcz30_0 : wc.cell? ⟨gb162,0,none⟩ = some (.int .i64 a0_0) := (blk_cell BK162.out 0).trans rfl
       have hcz30_1 : wc.cell? ⟨gb162,1,none⟩ = some (.int .i64 a0_1) := (blk_cell BK162.out 1).trans rfl
       have hcz30_2 : wc.cell? ⟨gb162,2,none⟩ = some (.int .i64 a0_2) := (blk_cell BK162.out 2).trans rfl
       have hcz30_3 : wc.cell? ⟨gb162,3,none⟩ = some (.int .i64 a0_3) := (blk_cell BK162.out 3).trans rfl
       have hcz30_4 : wc.cell? ⟨gb162,4,none⟩ = some (.int .i64 a0_4) := (blk_cell BK162.out 4).trans rfl
       have hcz30_5 : wc.cell? ⟨gb162,5,none⟩ = some (.string a0_5) := (blk_cell BK162.out 5).trans rfl
       have hfz30_0 := blk_frozen BK162.out 0
       have hfz30_1 := blk_frozen BK162.out 1
       have hfz30_2 := blk_frozen BK162.out 2
       have hfz30_3 := blk_frozen BK162.out 3
       have hfz30_4 := blk_frozen BK162.out 4
       have hfz30_5 := blk_frozen BK162.out 5
       go_wp2_with (first | ((with_reducible refine gate_callee (f:=46) rfl ?_); refine goesL_ (some 54) rfl rfl Tryd.func46 (by kernel_rfl) rfl #[.int .i64 a0_1,.int .i64 1,.int .i64 999999] rfl mA ?_; (with_reducible refine (spec_l01In.calls a0_1 1 999999 false _ A25.out).mono ?_); rintro e w' ⟨rfl,⟨nd,rfl⟩⟩; refine ⟨_,rfl,?_⟩))
       go_ret
       exact ⟨by first | rfl | (simp [errW_none,errW_some] <;> rfl) | (simp [*,errW_none,errW_some] <;> rfl),bA⟩
     ·rw [if_neg c24] at H
      have c24b0 : (a0_0 == 3) = false := beq_eq_false_iff_ne.mpr c24
      have c24b1 : (a0_0 != 3) = true := bne_iff_ne.mpr c24
      by_cases c31 : a0_0 = 4
      ·rw [if_pos c31] at H
       have c31b0 : (a0_0 == 4) = true := beq_iff_eq.mpr c31
       have c31b1 : (a0_0 != 4) = false := bne_eq_false_iff_eq.mpr c31
       clear c31
       replace H := Option.bind_eq_some_iff.mp H
       obtain ⟨t167,A320,H⟩ := H
       try dsimp only at H
       have A32 := Aside0.mk A320
       clear A320
       by_cases c33 : t167 = true
       ·subst c33
        rw [if_pos rfl] at H
        replace H := Option.bind_eq_some_iff.mp H
        obtain ⟨t168,A340,H⟩ := H
        try dsimp only at H
        have A34 := Aside0.mk A340
        clear A340
        obtain rfl := Option.some.inj H
        have hcz35_0 : wc.cell? ⟨gb162,0,none⟩ = some (.int .i64 a0_0) := (blk_cell BK162.out 0).trans rfl
        have hcz35_1 : wc.cell? ⟨gb162,1,none⟩ = some (.int .i64 a0_1) := (blk_cell BK162.out 1).trans rfl
        have hcz35_2 : wc.cell? ⟨gb162,2,none⟩ = some (.int .i64 a0_2) := (blk_cell BK162.out 2).trans rfl
        have hcz35_3 : wc.cell? ⟨gb162,3,none⟩ = some (.int .i64 a0_3) := (blk_cell BK162.out 3).trans rfl
        have hcz35_4 : wc.cell? ⟨gb162,4,none⟩ = some (.int .i64 a0_4) := (blk_cell BK162.out 4).trans rfl
        have hcz35_5 : wc.cell? ⟨gb162,5,none⟩ = some (.string a0_5) := (blk_cell BK162.out 5).trans rfl
        have hfz35_0 := blk_frozen BK162.out 0
        have hfz35_1 := blk_frozen BK162.out 1
        have hfz35_2 := blk_frozen BK162.out 2
        have hfz35_3 := blk_frozen BK162.out 3
        have hfz35_4 := blk_frozen BK162.out 4
        have hfz35_5 := blk_frozen BK162.out 5
        go_wp2_with (first | ((with_reducible refine gate_callee (f:=46) rfl ?_); refine goesL_ (some 63) rfl rfl Tryd.func46 (by kernel_rfl) rfl #[.int .i64 a0_1,.int .i64 1,.int .i64 999999] rfl mA ?_; (with_reducible refine (spec_l01In.calls a0_1 1 999999 true _ A32.out).mono ?_); rintro e w' ⟨rfl,⟨nd,rfl⟩⟩; refine ⟨_,rfl,?_⟩) | (go_at_call 45; (with_reducible refine (spec_l06Tiered.calls kj1 a0_0 a0_1 a0_2 a0_3 a0_4 a0_5 0 t168 _ A34.out).mono ?_); rintro e w36 ⟨rfl,hb⟩; have n0_ := Aside0.mk (blk_below (g:=gb162) (o:=.cells #[.int .i64 a0_0,.int .i64 a0_1,.int .i64 a0_2,.int .i64 a0_3,.int .i64 a0_4,.string a0_5] 47 (0,0)) (kA BK162.out) hb); have n1_ := Aside0.mk (below_step bA hb); clear BK162; clear HB; have BK162 := n0_; have HB := n1_; clear n0_ n1_; (try clear hb); (try clear hb2); (try clear hk); (try clear hi)))
        go_ret
        exact ⟨by first | rfl | (simp [errW_none,errW_some] <;> rfl) | (simp [*,errW_none,errW_some] <;> rfl),bA⟩
       ·replace c33 := Bool.eq_false_iff.mpr c33
        subst c33
        rw [if_neg (show ¬ (false = true) by decide)] at H
        obtain rfl := Option.some.inj H
        have hcz37_0 : wc.cell? ⟨gb162,0,none⟩ = some (.int .i64 a0_0) := (blk_cell BK162.out 0).trans rfl
        have hcz37_1 : wc.cell? ⟨gb162,1,none⟩ = some (.int .i64 a0_1) := (blk_cell BK162.out 1).trans rfl
        have hcz37_2 : wc.cell? ⟨gb162,2,none⟩ = some (.int .i64 a0_2) := (blk_cell BK162.out 2).trans rfl
        have hcz37_3 : wc.cell? ⟨gb162,3,none⟩ = some (.int .i64 a0_3) := (blk_cell BK162.out 3).trans rfl
        have hcz37_4 : wc.cell? ⟨gb162,4,none⟩ = some (.int .i64 a0_4) := (blk_cell BK162.out 4).trans rfl
        have hcz37_5 : wc.cell? ⟨gb162,5,none⟩ = some (.string a0_5) := (blk_cell BK162.out 5).trans rfl
        have hfz37_0 := blk_frozen BK162.out 0
        have hfz37_1 := blk_frozen BK162.out 1
        have hfz37_2 := blk_frozen BK162.out 2
        have hfz37_3 := blk_frozen BK162.out 3
        have hfz37_4 := blk_frozen BK162.out 4
        have hfz37_5 := blk_frozen BK162.out 5
        go_wp2_with (first | ((with_reducible refine gate_callee (f:=46) rfl ?_); refine goesL_ (some 63) rfl rfl Tryd.func46 (by kernel_rfl) rfl #[.int .i64 a0_1,.int .i64 1,.int .i64 999999] rfl mA ?_; (with_reducible refine (spec_l01In.calls a0_1 1 999999 false _ A32.out).mono ?_); rintro e w' ⟨rfl,⟨nd,rfl⟩⟩; refine ⟨_,rfl,?_⟩))
        go_ret
        exact ⟨by first | rfl | (simp [errW_none,errW_some] <;> rfl) | (simp [*,errW_none,errW_some] <;> rfl),bA⟩
      ·rw [if_neg c31] at H
       have c31b0 : (a0_0 == 4) = false := beq_eq_false_iff_ne.mpr c31
       have c31b1 : (a0_0 != 4) = true := bne_iff_ne.mpr c31
       by_cases c38 : a0_0 = 5
       ·rw [if_pos c38] at H
        have c38b0 : (a0_0 == 5) = true := beq_iff_eq.mpr c38
        have c38b1 : (a0_0 != 5) = false := bne_eq_false_iff_eq.mpr c38
        clear c38
        replace H := Option.bind_eq_some_iff.mp H
        obtain ⟨⟨t169,t170,t171,t172⟩,A390,H⟩ := H
        try dsimp only at H
        have A39 := Aside0.mk A390
        clear A390
        by_cases c40 : a0_1 = 0
        ·rw [if_pos c40] at H
         have c40b0 : (a0_1 == 0) = true := beq_iff_eq.mpr c40
         have c40b1 : (a0_1 != 0) = false := bne_eq_false_iff_eq.mpr c40
         clear c40
         by_cases c41 : x3_1 = true
         ·subst c41
          rw [if_pos rfl] at H
          obtain rfl := Option.some.inj H
          have hcz42_0 : wc.cell? ⟨gb162,0,none⟩ = some (.int .i64 a0_0) := (blk_cell BK162.out 0).trans rfl
          have hcz42_1 : wc.cell? ⟨gb162,1,none⟩ = some (.int .i64 a0_1) := (blk_cell BK162.out 1).trans rfl
          have hcz42_2 : wc.cell? ⟨gb162,2,none⟩ = some (.int .i64 a0_2) := (blk_cell BK162.out 2).trans rfl
          have hcz42_3 : wc.cell? ⟨gb162,3,none⟩ = some (.int .i64 a0_3) := (blk_cell BK162.out 3).trans rfl
          have hcz42_4 : wc.cell? ⟨gb162,4,none⟩ = some (.int .i64 a0_4) := (blk_cell BK162.out 4).trans rfl
          have hcz42_5 : wc.cell? ⟨gb162,5,none⟩ = some (.string a0_5) := (blk_cell BK162.out 5).trans rfl
          have hfz42_0 := blk_frozen BK162.out 0
          have hfz42_1 := blk_frozen BK162.out 1
          have hfz42_2 := blk_frozen BK162.out 2
          have hfz42_3 := blk_frozen BK162.out 3
          have hfz42_4 := blk_frozen BK162.out 4
          have hfz42_5 := blk_frozen BK162.out 5
          go_wp2_with (first | ((with_reducible refine gate_callee (f:=79) rfl ?_); refine goesL_ (some 73) rfl rfl Tryd.func79 (by kernel_rfl) rfl #[.string a0_5] rfl mA ?_; (with_reducible refine (spec_l03ToKey.calls kj1 a0_5 t169 t170 t171 t172 _ A39.out).mono ?_); rintro e w43 ⟨rfl,hb⟩; refine ⟨_,rfl,?_⟩; have n0_ := Aside0.mk (blk_below (g:=gb162) (o:=.cells #[.int .i64 a0_0,.int .i64 a0_1,.int .i64 a0_2,.int .i64 a0_3,.int .i64 a0_4,.string a0_5] 47 (0,0)) (kA BK162.out) hb); have n1_ := Aside0.mk (below_step bA hb); clear BK162; clear HB; have BK162 := n0_; have HB := n1_; clear n0_ n1_; (try clear hb); (try clear hb2); (try clear hk); (try clear hi); have hcz44_0 : w43.cell? ⟨gb162,0,none⟩ = some (.int .i64 a0_0) := (blk_cell BK162.out 0).trans rfl; have hcz44_1 : w43.cell? ⟨gb162,1,none⟩ = some (.int .i64 a0_1) := (blk_cell BK162.out 1).trans rfl; have hcz44_2 : w43.cell? ⟨gb162,2,none⟩ = some (.int .i64 a0_2) := (blk_cell BK162.out 2).trans rfl; have hcz44_3 : w43.cell? ⟨gb162,3,none⟩ = some (.int .i64 a0_3) := (blk_cell BK162.out 3).trans rfl; have hcz44_4 : w43.cell? ⟨gb162,4,none⟩ = some (.int .i64 a0_4) := (blk_cell BK162.out 4).trans rfl; have hcz44_5 : w43.cell? ⟨gb162,5,none⟩ = some (.string a0_5) := (blk_cell BK162.out 5).trans rfl; have hfz44_0 := blk_frozen BK162.out 0; have hfz44_1 := blk_frozen BK162.out 1; have hfz44_2 := blk_frozen BK162.out 2; have hfz44_3 := blk_frozen BK162.out 3; have hfz44_4 := blk_frozen BK162.out 4; have hfz44_5 := blk_frozen BK162.out 5))
          go_ret
          exact ⟨by first | rfl | (simp [errW_none,errW_some] <;> rfl) | (simp [*,errW_none,errW_some] <;> rfl),bA⟩
         ·replace c41 := Bool.eq_false_iff.mpr c41
          subst c41
          rw [if_neg (show ¬ (false = true) by decide)] at H
          obtain rfl := Option.some.inj H
          have hcz45_0 : wc.cell? ⟨gb162,0,none⟩ = some (.int .i64 a0_0) := (blk_cell BK162.out 0).trans rfl
          have hcz45_1 : wc.cell? ⟨gb162,1,none⟩ = some (.int .i64 a0_1) := (blk_cell BK162.out 1).trans rfl
          have hcz45_2 : wc.cell? ⟨gb162,2,none⟩ = some (.int .i64 a0_2) := (blk_cell BK162.out 2).trans rfl
          have hcz45_3 : wc.cell? ⟨gb162,3,none⟩ = some (.int .i64 a0_3) := (blk_cell BK162.out 3).trans rfl
          have hcz45_4 : wc.cell? ⟨gb162,4,none⟩ = some (.int .i64 a0_4) := (blk_cell BK162.out 4).trans rfl
          have hcz45_5 : wc.cell? ⟨gb162,5,none⟩ = some (.string a0_5) := (blk_cell BK162.out 5).trans rfl
          have hfz45_0 := blk_frozen BK162.out 0
          have hfz45_1 := blk_frozen BK162.out 1
          have hfz45_2 := blk_frozen BK162.out 2
          have hfz45_3 := blk_frozen BK162.out 3
          have hfz45_4 := blk_frozen BK162.out 4
          have hfz45_5 := blk_frozen BK162.out 5
          go_wp2_with (first | ((with_reducible refine gate_callee (f:=79) rfl ?_); refine goesL_ (some 73) rfl rfl Tryd.func79 (by kernel_rfl) rfl #[.string a0_5] rfl mA ?_; (with_reducible refine (spec_l03ToKey.calls kj1 a0_5 t169 t170 t171 t172 _ A39.out).mono ?_); rintro e w46 ⟨rfl,hb⟩; refine ⟨_,rfl,?_⟩; have n0_ := Aside0.mk (blk_below (g:=gb162) (o:=.cells #[.int .i64 a0_0,.int .i64 a0_1,.int .i64 a0_2,.int .i64 a0_3,.int .i64 a0_4,.string a0_5] 47 (0,0)) (kA BK162.out) hb); have n1_ := Aside0.mk (below_step bA hb); clear BK162; clear HB; have BK162 := n0_; have HB := n1_; clear n0_ n1_; (try clear hb); (try clear hb2); (try clear hk); (try clear hi); have hcz47_0 : w46.cell? ⟨gb162,0,none⟩ = some (.int .i64 a0_0) := (blk_cell BK162.out 0).trans rfl; have hcz47_1 : w46.cell? ⟨gb162,1,none⟩ = some (.int .i64 a0_1) := (blk_cell BK162.out 1).trans rfl; have hcz47_2 : w46.cell? ⟨gb162,2,none⟩ = some (.int .i64 a0_2) := (blk_cell BK162.out 2).trans rfl; have hcz47_3 : w46.cell? ⟨gb162,3,none⟩ = some (.int .i64 a0_3) := (blk_cell BK162.out 3).trans rfl; have hcz47_4 : w46.cell? ⟨gb162,4,none⟩ = some (.int .i64 a0_4) := (blk_cell BK162.out 4).trans rfl; have hcz47_5 : w46.cell? ⟨gb162,5,none⟩ = some (.string a0_5) := (blk_cell BK162.out 5).trans rfl; have hfz47_0 := blk_frozen BK162.out 0; have hfz47_1 := blk_frozen BK162.out 1; have hfz47_2 := blk_frozen BK162.out 2; have hfz47_3 := blk_frozen BK162.out 3; have hfz47_4 := blk_frozen BK162.out 4; have hfz47_5 := blk_frozen BK162.out 5))
          go_ret
          exact ⟨by first | rfl | (simp [errW_none,errW_some] <;> rfl) | (simp [*,errW_none,errW_some] <;> rfl),bA⟩
        ·rw [if_neg c40] at H
         have c40b0 : (a0_1 == 0) = false := beq_eq_false_iff_ne.mpr c40
         have c40b1 : (a0_1 != 0) = true := bne_iff_ne.mpr c40
         obtain rfl := Option.some.inj H
         have hcz48_0 : wc.cell? ⟨gb162,0,none⟩ = some (.int .i64 a0_0) := (blk_cell BK162.out 0).trans rfl
         have hcz48_1 : wc.cell? ⟨gb162,1,none⟩ = some (.int .i64 a0_1) := (blk_cell BK162.out 1).trans rfl
         have hcz48_2 : wc.cell? ⟨gb162,2,none⟩ = some (.int .i64 a0_2) := (blk_cell BK162.out 2).trans rfl
         have hcz48_3 : wc.cell? ⟨gb162,3,none⟩ = some (.int .i64 a0_3) := (blk_cell BK162.out 3).trans rfl
         have hcz48_4 : wc.cell? ⟨gb162,4,none⟩ = some (.int .i64 a0_4) := (blk_cell BK162.out 4).trans rfl
         have hcz48_5 : wc.cell? ⟨gb162,5,none⟩ = some (.string a0_5) := (blk_cell BK162.out 5).trans rfl
         have hfz48_0 := blk_frozen BK162.out 0
         have hfz48_1 := blk_frozen BK162.out 1
         have hfz48_2 := blk_frozen BK162.out 2
         have hfz48_3 := blk_frozen BK162.out 3
         have hfz48_4 := blk_frozen BK162.out 4
         have hfz48_5 := blk_frozen BK162.out 5
         go_wp2_with (first | ((with_reducible refine gate_callee (f:=79) rfl ?_); refine goesL_ (some 73) rfl rfl Tryd.func79 (by kernel_rfl) rfl #[.string a0_5] rfl mA ?_; (with_reducible refine (spec_l03ToKey.calls kj1 a0_5 t169 t170 t171 t172 _ A39.out).mono ?_); rintro e w49 ⟨rfl,hb⟩; refine ⟨_,rfl,?_⟩; have n0_ := Aside0.mk (blk_below (g:=gb162) (o:=.cells #[.int .i64 a0_0,.int .i64 a0_1,.int .i64 a0_2,.int .i64 a0_3,.int .i64 a0_4,.string a0_5] 47 (0,0)) (kA BK162.out) hb); have n1_ := Aside0.mk (below_step bA hb); clear BK162; clear HB; have BK162 := n0_; have HB := n1_; clear n0_ n1_; (try clear hb); (try clear hb2); (try clear hk); (try clear hi); have hcz50_0 : w49.cell? ⟨gb162,0,none⟩ = some (.int .i64 a0_0) := (blk_cell BK162.out 0).trans rfl; have hcz50_1 : w49.cell? ⟨gb162,1,none⟩ = some (.int .i64 a0_1) := (blk_cell BK162.out 1).trans rfl; have hcz50_2 : w49.cell? ⟨gb162,2,none⟩ = some (.int .i64 a0_2) := (blk_cell BK162.out 2).trans rfl; have hcz50_3 : w49.cell? ⟨gb162,3,none⟩ = some (.int .i64 a0_3) := (blk_cell BK162.out 3).trans rfl; have hcz50_4 : w49.cell? ⟨gb162,4,none⟩ = some (.int .i64 a0_4) := (blk_cell BK162.out 4).trans rfl; have hcz50_5 : w49.cell? ⟨gb162,5,none⟩ = some (.string a0_5) := (blk_cell BK162.out 5).trans rfl; have hfz50_0 := blk_frozen BK162.out 0; have hfz50_1 := blk_frozen BK162.out 1; have hfz50_2 := blk_frozen BK162.out 2; have hfz50_3 := blk_frozen BK162.out 3; have hfz50_4 := blk_frozen BK162.out 4; have hfz50_5 := blk_frozen BK162.out 5))
         go_ret
         exact ⟨by first | rfl | (simp [errW_none,errW_some] <;> rfl) | (simp [*,errW_none,errW_some] <;> rfl),bA⟩
       ·rw [if_neg c38] at H
        have c38b0 : (a0_0 == 5) = false := beq_eq_false_iff_ne.mpr c38
        have c38b1 : (a0_0 != 5) = true := bne_iff_ne.mpr c38
        obtain rfl := Option.some.inj H
        have hcz51_0 : wc.cell? ⟨gb162,0,none⟩ = some (.int .i64 a0_0) := (blk_cell BK162.out 0).trans rfl
        have hcz51_1 : wc.cell? ⟨gb162,1,none⟩ = some (.int .i64 a0_1) := (blk_cell BK162.out 1).trans rfl
        have hcz51_2 : wc.cell? ⟨gb162,2,none⟩ = some (.int .i64 a0_2) := (blk_cell BK162.out 2).trans rfl
        have hcz51_3 : wc.cell? ⟨gb162,3,none⟩ = some (.int .i64 a0_3) := (blk_cell BK162.out 3).trans rfl
        have hcz51_4 : wc.cell? ⟨gb162,4,none⟩ = some (.int .i64 a0_4) := (blk_cell BK162.out 4).trans rfl
        have hcz51_5 : wc.cell? ⟨gb162,5,none⟩ = some (.string a0_5) := (blk_cell BK162.out 5).trans rfl
        have hfz51_0 := blk_frozen BK162.out 0
        have hfz51_1 := blk_frozen BK162.out 1
        have hfz51_2 := blk_frozen BK162.out 2
        have hfz51_3 := blk_frozen BK162.out 3
        have hfz51_4 := blk_frozen BK162.out 4
        have hfz51_5 := blk_frozen BK162.out 5
        go_wp2
        go_ret
        exact ⟨by first | rfl | (simp [errW_none,errW_some] <;> rfl) | (simp [*,errW_none,errW_some] <;> rfl),bA⟩

/-! ### spec_l02Value: function 85 -/
def spec_l02Value.f (a0 : Int) : Option (Bool) := (spec_l01In.f a0 (-1000000) 1000000).bind fun t173 => (some t173)
set_option maxHeartbeats 8000000 in
set_option maxRecDepth 100000 in
theorem spec_l02Value.calls (a0 : Int) (r : Bool) (w : World) (h : spec_l02Value.f a0 = some r) :
  Calls Tryd.prog 85 #[.int .i64 a0] w fun e w' => e = .returned (.bool r) ∧ Drawn0 w w' := by
 have H : ((spec_l01In.f a0 (-1000000) 1000000).bind fun t173 => (some t173)) = some r := h
 clear h
 replace H := Option.bind_eq_some_iff.mp H
 obtain ⟨t173,A20,H⟩ := H
 try dsimp only at H
 have A2 := Aside0.mk A20
 clear A20
 obtain rfl := Option.some.inj H
 go_enter Tryd.func85,Tryd.ntmps85
 go_wp2_with (first | ((with_reducible refine gate_callee (f:=46) rfl ?_); refine goesL_ (some 4) rfl rfl Tryd.func46 (by kernel_rfl) rfl #[.int .i64 a0,.int .i64 (-1000000),.int .i64 1000000] rfl mA ?_; (with_reducible refine (spec_l01In.calls a0 (-1000000) 1000000 t173 _ A2.out).mono ?_); rintro e w' ⟨rfl,⟨nd,rfl⟩⟩; refine ⟨_,rfl,?_⟩))
 go_ret
 exact ⟨by first | rfl | (simp; done) | (simp [*]; done),by repeat (first | exact Drawn0.refl _ | apply Drawn0.step)⟩

/-! ### spec_AggOK: function 49 -/
def spec_AggOK.f (a0_0 : Int) (a0_1 : Int) (a0_2 : Int) (a0_3 : Int) (a0_4 : Int) (a0_5 : Int) : Option (Bool) := if a0_0 = 0 then (some (a0_0 == 0 && (a0_1 == 0 && (a0_2 == 0 && (a0_3 == 0 && (a0_4 == 0 && (a0_5 == 0))))))) else ((spec_l01In.f a0_0 1 100000).bind fun t175 => (if t175 = true then ((spec_l02Value.f a0_2).bind fun t176 => (if t176 = true then ((spec_l02Value.f a0_3).bind fun t177 => (if t177 = true then ((spec_l01In.f a0_4 a0_2 a0_3).bind fun t178 => (if t178 = true then ((spec_l01In.f a0_5 a0_2 a0_3).bind fun t179 => (if t179 = true then ((spec_l01In.f a0_1 (wrap64 (a0_0 * a0_2)) (wrap64 (a0_0 * a0_3))).bind fun t180 => (some t180)) else (some false))) else (some false))) else (some false))) else (some false))) else (some false)))
set_option maxHeartbeats 8000000 in
set_option maxRecDepth 100000 in
theorem spec_AggOK.calls (a0_0 : Int) (a0_1 : Int) (a0_2 : Int) (a0_3 : Int) (a0_4 : Int) (a0_5 : Int) (r : Bool) (w : World) (h : spec_AggOK.f a0_0 a0_1 a0_2 a0_3 a0_4 a0_5 = some r) :
  Calls Tryd.prog 49 #[.agg #[.int .i64 a0_0,.int .i64 a0_1,.int .i64 a0_2,.int .i64 a0_3,.int .i64 a0_4,.int .i64 a0_5]] w fun e w' => e = .returned (.bool r) ∧ Below w.heap.size w w' := by
 have hu49 := Tryd.underlying49
 have HB := Aside0.mk (Below.refl w.heap.size w)
 have H : (if a0_0 = 0 then (some (a0_0 == 0 && (a0_1 == 0 && (a0_2 == 0 && (a0_3 == 0 && (a0_4 == 0 && (a0_5 == 0))))))) else ((spec_l01In.f a0_0 1 100000).bind fun t175 => (if t175 = true then ((spec_l02Value.f a0_2).bind fun t176 => (if t176 = true then ((spec_l02Value.f a0_3).bind fun t177 => (if t177 = true then ((spec_l01In.f a0_4 a0_2 a0_3).bind fun t178 => (if t178 = true then ((spec_l01In.f a0_5 a0_2 a0_3).bind fun t179 => (if t179 = true then ((spec_l01In.f a0_1 (wrap64 (a0_0 * a0_2)) (wrap64 (a0_0 * a0_3))).bind fun t180 => (some t180)) else (some false))) else (some false))) else (some false))) else (some false))) else (some false)))) = some r := h
 clear h
 by_cases c2 : a0_0 = 0
 ·rw [if_pos c2] at H
  have c2b0 : (a0_0 == 0) = true := beq_iff_eq.mpr c2
  have c2b1 : (a0_0 != 0) = false := bne_eq_false_iff_eq.mpr c2
  clear c2
  obtain rfl := Option.some.inj H
  go_enter Tryd.func49,Tryd.ntmps49
  go_wp2_with (first | ((with_reducible refine gate_dst (N:=1) rfl ?_); refine box_event ?hg (N:=1) ?hd (cs := #[.int .i64 a0_0,.int .i64 a0_1,.int .i64 a0_2,.int .i64 a0_3,.int .i64 a0_4,.int .i64 a0_5]) (t:=49) ?hr ?_; (case hd => rfl); (case hg => rfl); (case hr => first | (go_simp; done) | (go_simp; rfl)); intro gb174 hg w3 hbox hb; have n0_ := Aside0.mk (below_step bA hb); have n1_ := Aside0.mk (hbox); have n2_ := Aside0.mk ((by rw [hg]; exact (below_size bA) : w.heap.size ≤ gb174)); have n3_ := Aside0.mk ((by rw [hg]; exact (below_size bA) : w.heap.size ≤ gb174)); clear HB; have HB := n0_; have BK174 := n1_; have GW174 := n2_; have GE174 := n3_; clear n0_ n1_ n2_ n3_; clear hb hbox hg; have hcz4_0 : w3.cell? ⟨gb174,0,none⟩ = some (.int .i64 a0_0) := (blk_cell BK174.out 0).trans rfl; have hcz4_1 : w3.cell? ⟨gb174,1,none⟩ = some (.int .i64 a0_1) := (blk_cell BK174.out 1).trans rfl; have hcz4_2 : w3.cell? ⟨gb174,2,none⟩ = some (.int .i64 a0_2) := (blk_cell BK174.out 2).trans rfl; have hcz4_3 : w3.cell? ⟨gb174,3,none⟩ = some (.int .i64 a0_3) := (blk_cell BK174.out 3).trans rfl; have hcz4_4 : w3.cell? ⟨gb174,4,none⟩ = some (.int .i64 a0_4) := (blk_cell BK174.out 4).trans rfl; have hcz4_5 : w3.cell? ⟨gb174,5,none⟩ = some (.int .i64 a0_5) := (blk_cell BK174.out 5).trans rfl; have hfz4_0 := blk_frozen BK174.out 0; have hfz4_1 := blk_frozen BK174.out 1; have hfz4_2 := blk_frozen BK174.out 2; have hfz4_3 := blk_frozen BK174.out 3; have hfz4_4 := blk_frozen BK174.out 4; have hfz4_5 := blk_frozen BK174.out 5))
  go_ret
  exact ⟨by first | rfl | (simp only [i64_w,i32_w] <;> rfl) | (simp [errW_none,errW_some] <;> rfl) | (simp [*,errW_none,errW_some] <;> rfl),bA⟩
 ·rw [if_neg c2] at H
  have c2b0 : (a0_0 == 0) = false := beq_eq_false_iff_ne.mpr c2
  have c2b1 : (a0_0 != 0) = true := bne_iff_ne.mpr c2
  replace H := Option.bind_eq_some_iff.mp H
  obtain ⟨t175,A50,H⟩ := H
  try dsimp only at H
  have A5 := Aside0.mk A50
  clear A50
  by_cases c6 : t175 = true
  ·subst c6
   rw [if_pos rfl] at H
   replace H := Option.bind_eq_some_iff.mp H
   obtain ⟨t176,A70,H⟩ := H
   try dsimp only at H
   have A7 := Aside0.mk A70
   clear A70
   by_cases c8 : t176 = true
   ·subst c8
    rw [if_pos rfl] at H
    replace H := Option.bind_eq_some_iff.mp H
    obtain ⟨t177,A90,H⟩ := H
    try dsimp only at H
    have A9 := Aside0.mk A90
    clear A90
    by_cases c10 : t177 = true
    ·subst c10
     rw [if_pos rfl] at H
     replace H := Option.bind_eq_some_iff.mp H
     obtain ⟨t178,A110,H⟩ := H
     try dsimp only at H
     have A11 := Aside0.mk A110
     clear A110
     by_cases c12 : t178 = true
     ·subst c12
      rw [if_pos rfl] at H
      replace H := Option.bind_eq_some_iff.mp H
      obtain ⟨t179,A130,H⟩ := H
      try dsimp only at H
      have A13 := Aside0.mk A130
      clear A130
      by_cases c14 : t179 = true
      ·subst c14
       rw [if_pos rfl] at H
       replace H := Option.bind_eq_some_iff.mp H
       obtain ⟨t180,A150,H⟩ := H
       try dsimp only at H
       have A15 := Aside0.mk A150
       clear A150
       obtain rfl := Option.some.inj H
       go_enter Tryd.func49,Tryd.ntmps49
       go_wp2_with (first | ((with_reducible refine gate_dst (N:=1) rfl ?_); refine box_event ?hg (N:=1) ?hd (cs := #[.int .i64 a0_0,.int .i64 a0_1,.int .i64 a0_2,.int .i64 a0_3,.int .i64 a0_4,.int .i64 a0_5]) (t:=49) ?hr ?_; (case hd => rfl); (case hg => rfl); (case hr => first | (go_simp; done) | (go_simp; rfl)); intro gb174 hg w16 hbox hb; have n0_ := Aside0.mk (below_step bA hb); have n1_ := Aside0.mk (hbox); have n2_ := Aside0.mk ((by rw [hg]; exact (below_size bA) : w.heap.size ≤ gb174)); have n3_ := Aside0.mk ((by rw [hg]; exact (below_size bA) : w.heap.size ≤ gb174)); clear HB; have HB := n0_; have BK174 := n1_; have GW174 := n2_; have GE174 := n3_; clear n0_ n1_ n2_ n3_; clear hb hbox hg; have hcz17_0 : w16.cell? ⟨gb174,0,none⟩ = some (.int .i64 a0_0) := (blk_cell BK174.out 0).trans rfl; have hcz17_1 : w16.cell? ⟨gb174,1,none⟩ = some (.int .i64 a0_1) := (blk_cell BK174.out 1).trans rfl; have hcz17_2 : w16.cell? ⟨gb174,2,none⟩ = some (.int .i64 a0_2) := (blk_cell BK174.out 2).trans rfl; have hcz17_3 : w16.cell? ⟨gb174,3,none⟩ = some (.int .i64 a0_3) := (blk_cell BK174.out 3).trans rfl; have hcz17_4 : w16.cell? ⟨gb174,4,none⟩ = some (.int .i64 a0_4) := (blk_cell BK174.out 4).trans rfl; have hcz17_5 : w16.cell? ⟨gb174,5,none⟩ = some (.int .i64 a0_5) := (blk_cell BK174.out 5).trans rfl; have hfz17_0 := blk_frozen BK174.out 0; have hfz17_1 := blk_frozen BK174.out 1; have hfz17_2 := blk_frozen BK174.out 2; have hfz17_3 := blk_frozen BK174.out 3; have hfz17_4 := blk_frozen BK174.out 4; have hfz17_5 := blk_frozen BK174.out 5) | ((with_reducible refine gate_callee (f:=46) rfl ?_); refine goesL_ (some 11) rfl rfl Tryd.func46 (by kernel_rfl) rfl #[.int .i64 a0_0,.int .i64 1,.int .i64 100000] rfl mA ?_; (with_reducible refine (spec_l01In.calls a0_0 1 100000 true _ A5.out).mono ?_); rintro e w' ⟨rfl,⟨nd,rfl⟩⟩; refine ⟨_,rfl,?_⟩) | (go_at_call 85; (with_reducible refine (spec_l02Value.calls a0_2 true _ A7.out).mono ?_); rintro e w' ⟨rfl,⟨nd,rfl⟩⟩) | (go_at_call 85; (with_reducible refine (spec_l02Value.calls a0_3 true _ A9.out).mono ?_); rintro e w' ⟨rfl,⟨nd,rfl⟩⟩) | (go_at_call 46; (with_reducible refine (spec_l01In.calls a0_4 a0_2 a0_3 true _ A11.out).mono ?_); rintro e w' ⟨rfl,⟨nd,rfl⟩⟩) | (go_at_call 46; (with_reducible refine (spec_l01In.calls a0_5 a0_2 a0_3 true _ A13.out).mono ?_); rintro e w' ⟨rfl,⟨nd,rfl⟩⟩) | (go_at_call 46; (with_reducible refine (spec_l01In.calls a0_1 (wrap64 (a0_0 * a0_2)) (wrap64 (a0_0 * a0_3)) t180 _ A15.out).mono ?_); rintro e w' ⟨rfl,⟨nd,rfl⟩⟩))
       go_ret
       exact ⟨by first | rfl | (simp only [i64_w,i32_w] <;> rfl) | (simp [errW_none,errW_some] <;> rfl) | (simp [*,errW_none,errW_some] <;> rfl),bA⟩
      ·replace c14 := Bool.eq_false_iff.mpr c14
       subst c14
       rw [if_neg (show ¬ (false = true) by decide)] at H
       obtain rfl := Option.some.inj H
       go_enter Tryd.func49,Tryd.ntmps49
       go_wp2_with (first | ((with_reducible refine gate_dst (N:=1) rfl ?_); refine box_event ?hg (N:=1) ?hd (cs := #[.int .i64 a0_0,.int .i64 a0_1,.int .i64 a0_2,.int .i64 a0_3,.int .i64 a0_4,.int .i64 a0_5]) (t:=49) ?hr ?_; (case hd => rfl); (case hg => rfl); (case hr => first | (go_simp; done) | (go_simp; rfl)); intro gb174 hg w18 hbox hb; have n0_ := Aside0.mk (below_step bA hb); have n1_ := Aside0.mk (hbox); have n2_ := Aside0.mk ((by rw [hg]; exact (below_size bA) : w.heap.size ≤ gb174)); have n3_ := Aside0.mk ((by rw [hg]; exact (below_size bA) : w.heap.size ≤ gb174)); clear HB; have HB := n0_; have BK174 := n1_; have GW174 := n2_; have GE174 := n3_; clear n0_ n1_ n2_ n3_; clear hb hbox hg; have hcz19_0 : w18.cell? ⟨gb174,0,none⟩ = some (.int .i64 a0_0) := (blk_cell BK174.out 0).trans rfl; have hcz19_1 : w18.cell? ⟨gb174,1,none⟩ = some (.int .i64 a0_1) := (blk_cell BK174.out 1).trans rfl; have hcz19_2 : w18.cell? ⟨gb174,2,none⟩ = some (.int .i64 a0_2) := (blk_cell BK174.out 2).trans rfl; have hcz19_3 : w18.cell? ⟨gb174,3,none⟩ = some (.int .i64 a0_3) := (blk_cell BK174.out 3).trans rfl; have hcz19_4 : w18.cell? ⟨gb174,4,none⟩ = some (.int .i64 a0_4) := (blk_cell BK174.out 4).trans rfl; have hcz19_5 : w18.cell? ⟨gb174,5,none⟩ = some (.int .i64 a0_5) := (blk_cell BK174.out 5).trans rfl; have hfz19_0 := blk_frozen BK174.out 0; have hfz19_1 := blk_frozen BK174.out 1; have hfz19_2 := blk_frozen BK174.out 2; have hfz19_3 := blk_frozen BK174.out 3; have hfz19_4 := blk_frozen BK174.out 4; have hfz19_5 := blk_frozen BK174.out 5) | ((with_reducible refine gate_callee (f:=46) rfl ?_); refine goesL_ (some 11) rfl rfl Tryd.func46 (by kernel_rfl) rfl #[.int .i64 a0_0,.int .i64 1,.int .i64 100000] rfl mA ?_; (with_reducible refine (spec_l01In.calls a0_0 1 100000 true _ A5.out).mono ?_); rintro e w' ⟨rfl,⟨nd,rfl⟩⟩; refine ⟨_,rfl,?_⟩) | (go_at_call 85; (with_reducible refine (spec_l02Value.calls a0_2 true _ A7.out).mono ?_); rintro e w' ⟨rfl,⟨nd,rfl⟩⟩) | (go_at_call 85; (with_reducible refine (spec_l02Value.calls a0_3 true _ A9.out).mono ?_); rintro e w' ⟨rfl,⟨nd,rfl⟩⟩) | (go_at_call 46; (with_reducible refine (spec_l01In.calls a0_4 a0_2 a0_3 true _ A11.out).mono ?_); rintro e w' ⟨rfl,⟨nd,rfl⟩⟩) | (go_at_call 46; (with_reducible refine (spec_l01In.calls a0_5 a0_2 a0_3 false _ A13.out).mono ?_); rintro e w' ⟨rfl,⟨nd,rfl⟩⟩))
       go_ret
       exact ⟨by first | rfl | (simp only [i64_w,i32_w] <;> rfl) | (simp [errW_none,errW_some] <;> rfl) | (simp [*,errW_none,errW_some] <;> rfl),bA⟩
     ·replace c12 := Bool.eq_false_iff.mpr c12
      subst c12
      rw [if_neg (show ¬ (false = true) by decide)] at H
      obtain rfl := Option.some.inj H
      go_enter Tryd.func49,Tryd.ntmps49
      go_wp2_with (first | ((with_reducible refine gate_dst (N:=1) rfl ?_); refine box_event ?hg (N:=1) ?hd (cs := #[.int .i64 a0_0,.int .i64 a0_1,.int .i64 a0_2,.int .i64 a0_3,.int .i64 a0_4,.int .i64 a0_5]) (t:=49) ?hr ?_; (case hd => rfl); (case hg => rfl); (case hr => first | (go_simp; done) | (go_simp; rfl)); intro gb174 hg w20 hbox hb; have n0_ := Aside0.mk (below_step bA hb); have n1_ := Aside0.mk (hbox); have n2_ := Aside0.mk ((by rw [hg]; exact (below_size bA) : w.heap.size ≤ gb174)); have n3_ := Aside0.mk ((by rw [hg]; exact (below_size bA) : w.heap.size ≤ gb174)); clear HB; have HB := n0_; have BK174 := n1_; have GW174 := n2_; have GE174 := n3_; clear n0_ n1_ n2_ n3_; clear hb hbox hg; have hcz21_0 : w20.cell? ⟨gb174,0,none⟩ = some (.int .i64 a0_0) := (blk_cell BK174.out 0).trans rfl; have hcz21_1 : w20.cell? ⟨gb174,1,none⟩ = some (.int .i64 a0_1) := (blk_cell BK174.out 1).trans rfl; have hcz21_2 : w20.cell? ⟨gb174,2,none⟩ = some (.int .i64 a0_2) := (blk_cell BK174.out 2).trans rfl; have hcz21_3 : w20.cell? ⟨gb174,3,none⟩ = some (.int .i64 a0_3) := (blk_cell BK174.out 3).trans rfl; have hcz21_4 : w20.cell? ⟨gb174,4,none⟩ = some (.int .i64 a0_4) := (blk_cell BK174.out 4).trans rfl; have hcz21_5 : w20.cell? ⟨gb174,5,none⟩ = some (.int .i64 a0_5) := (blk_cell BK174.out 5).trans rfl; have hfz21_0 := blk_frozen BK174.out 0; have hfz21_1 := blk_frozen BK174.out 1; have hfz21_2 := blk_frozen BK174.out 2; have hfz21_3 := blk_frozen BK174.out 3; have hfz21_4 := blk_frozen BK174.out 4; have hfz21_5 := blk_frozen BK174.out 5) | ((with_reducible refine gate_callee (f:=46) rfl ?_); refine goesL_ (some 11) rfl rfl Tryd.func46 (by kernel_rfl) rfl #[.int .i64 a0_0,.int .i64 1,.int .i64 100000] rfl mA ?_; (with_reducible refine (spec_l01In.calls a0_0 1 100000 true _ A5.out).mono ?_); rintro e w' ⟨rfl,⟨nd,rfl⟩⟩; refine ⟨_,rfl,?_⟩) | (go_at_call 85; (with_reducible refine (spec_l02Value.calls a0_2 true _ A7.out).mono ?_); rintro e w' ⟨rfl,⟨nd,rfl⟩⟩) | (go_at_call 85; (with_reducible refine (spec_l02Value.calls a0_3 true _ A9.out).mono ?_); rintro e w' ⟨rfl,⟨nd,rfl⟩⟩) | (go_at_call 46; (with_reducible refine (spec_l01In.calls a0_4 a0_2 a0_3 false _ A11.out).mono ?_); rintro e w' ⟨rfl,⟨nd,rfl⟩⟩))
      go_ret
      exact ⟨by first | rfl | (simp only [i64_w,i32_w] <;> rfl) | (simp [errW_none,errW_some] <;> rfl) | (simp [*,errW_none,errW_some] <;> rfl),bA⟩
    ·replace c10 := Bool.eq_false_iff.mpr c10
     subst c10
     rw [if_neg (show ¬ (false = true) by decide)] at H
     obtain rfl := Option.some.inj H
     go_enter Tryd.func49,Tryd.ntmps49
     go_wp2_with (first | ((with_reducible refine gate_dst (N:=1) rfl ?_); refine box_event ?hg (N:=1) ?hd (cs := #[.int .i64 a0_0,.int .i64 a0_1,.int .i64 a0_2,.int .i64 a0_3,.int .i64 a0_4,.int .i64 a0_5]) (t:=49) ?hr ?_; (case hd => rfl); (case hg => rfl); (case hr => first | (go_simp; done) | (go_simp; rfl)); intro gb174 hg w22 hbox hb; have n0_ := Aside0.mk (below_step bA hb); have n1_ := Aside0.mk (hbox); have n2_ := Aside0.mk ((by rw [hg]; exact (below_size bA) : w.heap.size ≤ gb174)); have n3_ := Aside0.mk ((by rw [hg]; exact (below_size bA) : w.heap.size ≤ gb174)); clear HB; have HB := n0_; have BK174 := n1_; have GW174 := n2_; have GE174 := n3_; clear n0_ n1_ n2_ n3_; clear hb hbox hg; have hcz23_0 : w22.cell? ⟨gb174,0,none⟩ = some (.int .i64 a0_0) := (blk_cell BK174.out 0).trans rfl; have hcz23_1 : w22.cell? ⟨gb174,1,none⟩ = some (.int .i64 a0_1) := (blk_cell BK174.out 1).trans rfl; have hcz23_2 : w22.cell? ⟨gb174,2,none⟩ = some (.int .i64 a0_2) := (blk_cell BK174.out 2).trans rfl; have hcz23_3 : w22.cell? ⟨gb174,3,none⟩ = some (.int .i64 a0_3) := (blk_cell BK174.out 3).trans rfl; have hcz23_4 : w22.cell? ⟨gb174,4,none⟩ = some (.int .i64 a0_4) := (blk_cell BK174.out 4).trans rfl; have hcz23_5 : w22.cell? ⟨gb174,5,none⟩ = some (.int .i64 a0_5) := (blk_cell BK174.out 5).trans rfl; have hfz23_0 := blk_frozen BK174.out 0; have hfz23_1 := blk_frozen BK174.out 1; have hfz23_2 := blk_frozen BK174.out 2; have hfz23_3 := blk_frozen BK174.out 3; have hfz23_4 := blk_frozen BK174.out 4; have hfz23_5 := blk_frozen BK174.out 5) | ((with_reducible refine gate_callee (f:=46) rfl ?_); refine goesL_ (some 11) rfl rfl Tryd.func46 (by kernel_rfl) rfl #[.int .i64 a0_0,.int .i64 1,.int .i64 100000] rfl mA ?_; (with_reducible refine (spec_l01In.calls a0_0 1 100000 true _ A5.out).mono ?_); rintro e w' ⟨rfl,⟨nd,rfl⟩⟩; refine ⟨_,rfl,?_⟩) | (go_at_call 85; (with_reducible refine (spec_l02Value.calls a0_2 true _ A7.out).mono ?_); rintro e w' ⟨rfl,⟨nd,rfl⟩⟩) | (go_at_call 85; (with_reducible refine (spec_l02Value.calls a0_3 false _ A9.out).mono ?_); rintro e w' ⟨rfl,⟨nd,rfl⟩⟩))
     go_ret
     exact ⟨by first | rfl | (simp only [i64_w,i32_w] <;> rfl) | (simp [errW_none,errW_some] <;> rfl) | (simp [*,errW_none,errW_some] <;> rfl),bA⟩
   ·replace c8 := Bool.eq_false_iff.mpr c8
    subst c8
    rw [if_neg (show ¬ (false = true) by decide)] at H
    obtain rfl := Option.some.inj H
    go_enter Tryd.func49,Tryd.ntmps49
    go_wp2_with (first | ((with_reducible refine gate_dst (N:=1) rfl ?_); refine box_event ?hg (N:=1) ?hd (cs := #[.int .i64 a0_0,.int .i64 a0_1,.int .i64 a0_2,.int .i64 a0_3,.int .i64 a0_4,.int .i64 a0_5]) (t:=49) ?hr ?_; (case hd => rfl); (case hg => rfl); (case hr => first | (go_simp; done) | (go_simp; rfl)); intro gb174 hg w24 hbox hb; have n0_ := Aside0.mk (below_step bA hb); have n1_ := Aside0.mk (hbox); have n2_ := Aside0.mk ((by rw [hg]; exact (below_size bA) : w.heap.size ≤ gb174)); have n3_ := Aside0.mk ((by rw [hg]; exact (below_size bA) : w.heap.size ≤ gb174)); clear HB; have HB := n0_; have BK174 := n1_; have GW174 := n2_; have GE174 := n3_; clear n0_ n1_ n2_ n3_; clear hb hbox hg; have hcz25_0 : w24.cell? ⟨gb174,0,none⟩ = some (.int .i64 a0_0) := (blk_cell BK174.out 0).trans rfl; have hcz25_1 : w24.cell? ⟨gb174,1,none⟩ = some (.int .i64 a0_1) := (blk_cell BK174.out 1).trans rfl; have hcz25_2 : w24.cell? ⟨gb174,2,none⟩ = some (.int .i64 a0_2) := (blk_cell BK174.out 2).trans rfl; have hcz25_3 : w24.cell? ⟨gb174,3,none⟩ = some (.int .i64 a0_3) := (blk_cell BK174.out 3).trans rfl; have hcz25_4 : w24.cell? ⟨gb174,4,none⟩ = some (.int .i64 a0_4) := (blk_cell BK174.out 4).trans rfl; have hcz25_5 : w24.cell? ⟨gb174,5,none⟩ = some (.int .i64 a0_5) := (blk_cell BK174.out 5).trans rfl; have hfz25_0 := blk_frozen BK174.out 0; have hfz25_1 := blk_frozen BK174.out 1; have hfz25_2 := blk_frozen BK174.out 2; have hfz25_3 := blk_frozen BK174.out 3; have hfz25_4 := blk_frozen BK174.out 4; have hfz25_5 := blk_frozen BK174.out 5) | ((with_reducible refine gate_callee (f:=46) rfl ?_); refine goesL_ (some 11) rfl rfl Tryd.func46 (by kernel_rfl) rfl #[.int .i64 a0_0,.int .i64 1,.int .i64 100000] rfl mA ?_; (with_reducible refine (spec_l01In.calls a0_0 1 100000 true _ A5.out).mono ?_); rintro e w' ⟨rfl,⟨nd,rfl⟩⟩; refine ⟨_,rfl,?_⟩) | (go_at_call 85; (with_reducible refine (spec_l02Value.calls a0_2 false _ A7.out).mono ?_); rintro e w' ⟨rfl,⟨nd,rfl⟩⟩))
    go_ret
    exact ⟨by first | rfl | (simp only [i64_w,i32_w] <;> rfl) | (simp [errW_none,errW_some] <;> rfl) | (simp [*,errW_none,errW_some] <;> rfl),bA⟩
  ·replace c6 := Bool.eq_false_iff.mpr c6
   subst c6
   rw [if_neg (show ¬ (false = true) by decide)] at H
   obtain rfl := Option.some.inj H
   go_enter Tryd.func49,Tryd.ntmps49
   go_wp2_with (first | ((with_reducible refine gate_dst (N:=1) rfl ?_); refine box_event ?hg (N:=1) ?hd (cs := #[.int .i64 a0_0,.int .i64 a0_1,.int .i64 a0_2,.int .i64 a0_3,.int .i64 a0_4,.int .i64 a0_5]) (t:=49) ?hr ?_; (case hd => rfl); (case hg => rfl); (case hr => first | (go_simp; done) | (go_simp; rfl)); intro gb174 hg w26 hbox hb; have n0_ := Aside0.mk (below_step bA hb); have n1_ := Aside0.mk (hbox); have n2_ := Aside0.mk ((by rw [hg]; exact (below_size bA) : w.heap.size ≤ gb174)); have n3_ := Aside0.mk ((by rw [hg]; exact (below_size bA) : w.heap.size ≤ gb174)); clear HB; have HB := n0_; have BK174 := n1_; have GW174 := n2_; have GE174 := n3_; clear n0_ n1_ n2_ n3_; clear hb hbox hg; have hcz27_0 : w26.cell? ⟨gb174,0,none⟩ = some (.int .i64 a0_0) := (blk_cell BK174.out 0).trans rfl; have hcz27_1 : w26.cell? ⟨gb174,1,none⟩ = some (.int .i64 a0_1) := (blk_cell BK174.out 1).trans rfl; have hcz27_2 : w26.cell? ⟨gb174,2,none⟩ = some (.int .i64 a0_2) := (blk_cell BK174.out 2).trans rfl; have hcz27_3 : w26.cell? ⟨gb174,3,none⟩ = some (.int .i64 a0_3) := (blk_cell BK174.out 3).trans rfl; have hcz27_4 : w26.cell? ⟨gb174,4,none⟩ = some (.int .i64 a0_4) := (blk_cell BK174.out 4).trans rfl; have hcz27_5 : w26.cell? ⟨gb174,5,none⟩ = some (.int .i64 a0_5) := (blk_cell BK174.out 5).trans rfl; have hfz27_0 := blk_frozen BK174.out 0; have hfz27_1 := blk_frozen BK174.out 1; have hfz27_2 := blk_frozen BK174.out 2; have hfz27_3 := blk_frozen BK174.out 3; have hfz27_4 := blk_frozen BK174.out 4; have hfz27_5 := blk_frozen BK174.out 5) | ((with_reducible refine gate_callee (f:=46) rfl ?_); refine goesL_ (some 11) rfl rfl Tryd.func46 (by kernel_rfl) rfl #[.int .i64 a0_0,.int .i64 1,.int .i64 100000] rfl mA ?_; (with_reducible refine (spec_l01In.calls a0_0 1 100000 false _ A5.out).mono ?_); rintro e w' ⟨rfl,⟨nd,rfl⟩⟩; refine ⟨_,rfl,?_⟩))
   go_ret
   exact ⟨by first | rfl | (simp only [i64_w,i32_w] <;> rfl) | (simp [errW_none,errW_some] <;> rfl) | (simp [*,errW_none,errW_some] <;> rfl),bA⟩

end Go.Proofs.YtleifhnoaaphmaaDoor.XFnExactWorkerOK
