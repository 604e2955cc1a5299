-- Printed by this session's own program wip/tools/xprint.py, which widens the kit's print. Not trusted: Lean checks it.
import Derived.Test.YtleifhnoaaphmaaDoorXFnExactAskReaderx0
import Derived.Test.YtleifhnoaaphmaaDoorXFnExactAskReaderx3
import Derived.Test.YtleifhnoaaphmaaDoorXFnExactAskReaderx5
namespace Go.Proofs.YtleifhnoaaphmaaDoor.XFnExactAskReader
open Go.RowKit Go.Proofs.YtleifhnoaaphmaaDoorW.PrintWords Go.Proofs.YtleifhnoaaphmaaDoorW.PrintLast Go.Proofs.YtleifhnoaaphmaaDoorW.PrintMore
attribute [local go_sem] max2_int min2_int max_two min_two max_three min_three max_four min_four   -- for this text's walks alone
set_option linter.unusedVariables false
set_option linter.unusedSimpArgs false

/-! ### spec_ReaderOK: function 23 -/
mutual
def spec_ReaderOK.l0 : Nat → Int → Int → Int → Int → Int → Int → Int → Int → List (S84) → Int → Int → Int → Int → Int → Int → Option (Bool)
 | 0,_,_,_,_,_,_,_,_,_,_,_,_,_,_,_ => none
 | k + 1,x3,x208000,x208001,x208002,x208003,x208004,x208005,x208006,x208007,x208008,x208009,x208010,x208011,x208012,x208013 => if x3 < (x208007.length : Int) then (if 0 ≤ x3 then ((spec_l06Tiered.f k 0 0 ((rd_T84 x208007 x3).f0) ((rd_T84 x208007 x3).f1) ((rd_T84 x208007 x3).f2) ((rd_T84 x208007 x3).f3) 0).bind fun t210 => (if t210 = true then (if ((rd_T84 x208007 x3).f0) = x208002 then (spec_ReaderOK.l0 k (wrap64 (x3 + 1)) x208000 x208001 x208002 x208003 x208004 x208005 x208006 x208007 x208008 x208009 x208010 x208011 x208012 x208013) else (some false)) else (some false))) else (none)) else ((spec_l01In.f x208000 0 9).bind fun t211 => (if t211 = true then ((spec_l01In.f x208001 0 4).bind fun t212 => (if t212 = true then ((spec_l01In.f x208005 0 200000).bind fun t213 => (if t213 = true then ((spec_l01In.f x208006 0 19).bind fun t214 => (if t214 = true then ((spec_AggOK.f x208008 x208009 x208010 x208011 x208012 x208013).bind fun t215 => (if t215 = true then (if x208008 > 1000 then (spec_ReaderOK.j1 k true x208000 x208001 x208002 x208003 x208004 x208005 x208006 x208007 x208008 x208009 x208010 x208011 x208012 x208013) else (spec_ReaderOK.j1 k (decide ((x208007.length : Int) > 300)) x208000 x208001 x208002 x208003 x208004 x208005 x208006 x208007 x208008 x208009 x208010 x208011 x208012 x208013)) else (spec_ReaderOK.j1 k true x208000 x208001 x208002 x208003 x208004 x208005 x208006 x208007 x208008 x208009 x208010 x208011 x208012 x208013))) else (spec_ReaderOK.j1 k true x208000 x208001 x208002 x208003 x208004 x208005 x208006 x208007 x208008 x208009 x208010 x208011 x208012 x208013))) else (spec_ReaderOK.j1 k true x208000 x208001 x208002 x208003 x208004 x208005 x208006 x208007 x208008 x208009 x208010 x208011 x208012 x208013))) else (spec_ReaderOK.j1 k true x208000 x208001 x208002 x208003 x208004 x208005 x208006 x208007 x208008 x208009 x208010 x208011 x208012 x208013))) else (spec_ReaderOK.j1 k true x208000 x208001 x208002 x208003 x208004 x208005 x208006 x208007 x208008 x208009 x208010 x208011 x208012 x208013)))
def spec_ReaderOK.j1 : Nat → Bool → Int → Int → Int → Int → Int → Int → Int → List (S84) → Int → Int → Int → Int → Int → Int → Option (Bool)
 | 0,_,_,_,_,_,_,_,_,_,_,_,_,_,_,_ => none
 | k + 1,x74,x208000,x208001,x208002,x208003,x208004,x208005,x208006,x208007,x208008,x208009,x208010,x208011,x208012,x208013 => if x74 = true then (some false) else ((spec_l04Tier.f x208002).bind fun t216 => (if t216 = true then ((spec_l04Range.f x208003 x208004).bind fun t217 => (some t217)) else (some false)))
end
def spec_ReaderOK.f (k : Nat) (a0_0 : Int) (a0_1 : Int) (a0_2 : Int) (a0_3 : Int) (a0_4 : Int) (a0_5 : Int) (a0_6 : Int) (l0_7 : List (S84)) (a0_8 : Int) (a0_9 : Int) (a0_10 : Int) (a0_11 : Int) (a0_12 : Int) (a0_13 : Int) : Option (Bool) := spec_ReaderOK.l0 k 0 a0_0 a0_1 a0_2 a0_3 a0_4 a0_5 a0_6 l0_7 a0_8 a0_9 a0_10 a0_11 a0_12 a0_13
theorem spec_ReaderOK.mono_l : ∀ k,(∀ y0 y1 y2 y3 y4 y5 y6 y7 y8 y9 y10 y11 y12 y13 y14,LeO (spec_ReaderOK.l0 k y0 y1 y2 y3 y4 y5 y6 y7 y8 y9 y10 y11 y12 y13 y14) (spec_ReaderOK.l0 (k + 1) y0 y1 y2 y3 y4 y5 y6 y7 y8 y9 y10 y11 y12 y13 y14)) ∧ (∀ y0 y1 y2 y3 y4 y5 y6 y7 y8 y9 y10 y11 y12 y13 y14,LeO (spec_ReaderOK.j1 k y0 y1 y2 y3 y4 y5 y6 y7 y8 y9 y10 y11 y12 y13 y14) (spec_ReaderOK.j1 (k + 1) y0 y1 y2 y3 y4 y5 y6 y7 y8 y9 y10 y11 y12 y13 y14))
 | 0 => ⟨fun _ _ _ _ _ _ _ _ _ _ _ _ _ _ _ r h => by simp [spec_ReaderOK.l0] at h,fun _ _ _ _ _ _ _ _ _ _ _ _ _ _ _ r h => by simp [spec_ReaderOK.j1] at h⟩
 | k + 1 => by
  obtain ⟨ih0,ih1⟩ := spec_ReaderOK.mono_l k
  refine ⟨?_,?_⟩
  ·intro y0 y1 y2 y3 y4 y5 y6 y7 y8 y9 y10 y11 y12 y13 y14
   unfold spec_ReaderOK.l0
   repeat' first
   | (with_reducible exact ih0 _ _ _ _ _ _ _ _ _ _ _ _ _ _ _)
   | (with_reducible exact ih1 _ _ _ _ _ _ _ _ _ _ _ _ _ _ _)
   | (with_reducible exact spec_l06Tiered.mono _ _ _ _ _ _ _ _)
   | (with_reducible exact LeO.refl _)
   | (with_reducible exact LeO.none _)
   | (with_reducible refine LeO.ite ?_ ?_)
   | (with_reducible refine LeO.bind ?_ (fun _ => ?_))
   | exact ih0 _ _ _ _ _ _ _ _ _ _ _ _ _ _ _
   | exact ih1 _ _ _ _ _ _ _ _ _ _ _ _ _ _ _
   | exact spec_l06Tiered.mono _ _ _ _ _ _ _ _
   | exact LeO.none _
   | refine LeO.ite ?_ ?_
   | refine LeO.bind ?_ (fun _ => ?_)
  ·intro y0 y1 y2 y3 y4 y5 y6 y7 y8 y9 y10 y11 y12 y13 y14
   unfold spec_ReaderOK.j1
   repeat' first
   | (with_reducible exact ih0 _ _ _ _ _ _ _ _ _ _ _ _ _ _ _)
   | (with_reducible exact ih1 _ _ _ _ _ _ _ _ _ _ _ _ _ _ _)
   | (with_reducible exact spec_l06Tiered.mono _ _ _ _ _ _ _ _)
   | (with_reducible exact LeO.refl _)
   | (with_reducible exact LeO.none _)
   | (with_reducible refine LeO.ite ?_ ?_)
   | (with_reducible refine LeO.bind ?_ (fun _ => ?_))
   | exact ih0 _ _ _ _ _ _ _ _ _ _ _ _ _ _ _
   | exact ih1 _ _ _ _ _ _ _ _ _ _ _ _ _ _ _
   | exact spec_l06Tiered.mono _ _ _ _ _ _ _ _
   | exact LeO.none _
   | refine LeO.ite ?_ ?_
   | refine LeO.bind ?_ (fun _ => ?_)
theorem spec_ReaderOK.mono : ∀ a0 a1 a2 a3 a4 a5 a6 a7 a8 a9 a10 a11 a12 a13 k,LeO (spec_ReaderOK.f k a0 a1 a2 a3 a4 a5 a6 a7 a8 a9 a10 a11 a12 a13) (spec_ReaderOK.f (k + 1) a0 a1 a2 a3 a4 a5 a6 a7 a8 a9 a10 a11 a12 a13) := by
 intro a0 a1 a2 a3 a4 a5 a6 a7 a8 a9 a10 a11 a12 a13 k
 obtain ⟨ih0,ih1⟩ := spec_ReaderOK.mono_l k
 unfold spec_ReaderOK.f
 repeat' first
   | (with_reducible exact ih0 _ _ _ _ _ _ _ _ _ _ _ _ _ _ _)
   | (with_reducible exact ih1 _ _ _ _ _ _ _ _ _ _ _ _ _ _ _)
   | (with_reducible exact spec_l06Tiered.mono _ _ _ _ _ _ _ _)
   | (with_reducible exact LeO.refl _)
   | (with_reducible exact LeO.none _)
   | (with_reducible refine LeO.ite ?_ ?_)
   | (with_reducible refine LeO.bind ?_ (fun _ => ?_))
   | exact ih0 _ _ _ _ _ _ _ _ _ _ _ _ _ _ _
   | exact ih1 _ _ _ _ _ _ _ _ _ _ _ _ _ _ _
   | exact spec_l06Tiered.mono _ _ _ _ _ _ _ _
   | exact LeO.none _
   | refine LeO.ite ?_ ?_
   | refine LeO.bind ?_ (fun _ => ?_)
set_option maxHeartbeats 8000000 in
set_option maxRecDepth 100000 in
theorem spec_ReaderOK.calls (k : Nat) (a0_0 : Int) (a0_1 : Int) (a0_2 : Int) (a0_3 : Int) (a0_4 : Int) (a0_5 : Int) (a0_6 : Int) (A0_7 : Option Addr) (c0_7 : Nat) (l0_7 : List (S84)) (a0_8 : Int) (a0_9 : Int) (a0_10 : Int) (a0_11 : Int) (a0_12 : Int) (a0_13 : Int) (r : Bool) (w : World) (hr0_7 : Kd.C k84 w A0_7 l0_7.length l0_7) (hc0_7 : l0_7.length ≤ c0_7) (h : spec_ReaderOK.f k a0_0 a0_1 a0_2 a0_3 a0_4 a0_5 a0_6 l0_7 a0_8 a0_9 a0_10 a0_11 a0_12 a0_13 = some r) :
  Calls Tryd.prog 23 #[.agg #[.int .i64 a0_0,.int .i64 a0_1,.int .i64 a0_2,.int .i64 a0_3,.int .i64 a0_4,.int .i64 a0_5,.int .i64 a0_6,.slice A0_7 l0_7.length c0_7,.int .i64 a0_8,.int .i64 a0_9,.int .i64 a0_10,.int .i64 a0_11,.int .i64 a0_12,.int .i64 a0_13]] w fun e w' => e = .returned (.bool r) ∧ Below w.heap.size w w' := by
 have hu60 := Tryd.underlying60
 have hu84 := Tryd.underlying84
 have hu47 := Tryd.underlying47
 have hu49 := Tryd.underlying49
 have HR0_7 := Aside0.mk hr0_7
 have HC0_7 := Aside0.mk hc0_7
 clear hr0_7 hc0_7
 have HB := Aside0.mk (Below.refl w.heap.size w)
 have H : (spec_ReaderOK.l0 k 0 a0_0 a0_1 a0_2 a0_3 a0_4 a0_5 a0_6 l0_7 a0_8 a0_9 a0_10 a0_11 a0_12 a0_13) = some r := h
 clear h
 have H' := Aside0.mk H
 clear H
 go_enter Tryd.func23,Tryd.ntmps23
 go_wp2_with (first | ((with_reducible refine gate_dst (N:=1) rfl ?_); (try (refine gate_guard (by rfl) ?_; dsimp only)); refine box_event ?hg (N:=1) ?hd (cs := #[.int .i64 a0_0,.int .i64 a0_1,.int .i64 a0_2,.int .i64 a0_3,.int .i64 a0_4,.int .i64 a0_5,.int .i64 a0_6,.slice A0_7 l0_7.length c0_7,.int .i64 a0_8,.int .i64 a0_9,.int .i64 a0_10,.int .i64 a0_11,.int .i64 a0_12,.int .i64 a0_13]) (t:=60) ?hr ?_; (case hd => rfl); (case hg => rfl); (case hr => first | (go_simp; done) | (go_simp; rfl)); intro gb207 hg w2 hbox hb; have n0_ := Aside0.mk (below_step bA hb); have n1_ := Aside0.mk (hbox); have n2_ := Aside0.mk ((by rw [hg]; exact (below_size bA) : w.heap.size ≤ gb207)); have n3_ := Aside0.mk ((by rw [hg]; exact (below_size bA) : w.heap.size ≤ gb207)); clear HB; have HB := n0_; have BK207 := n1_; have GW207 := n2_; have GE207 := n3_; clear n0_ n1_ n2_ n3_; clear hb hbox hg))
 go_loopg [3] k (fun kq v3 w' => ∃ (x3_1 : Int),v3 = .int .i64 x3_1 ∧ Aside0 (spec_ReaderOK.l0 kq x3_1 a0_0 a0_1 a0_2 a0_3 a0_4 a0_5 a0_6 l0_7 a0_8 a0_9 a0_10 a0_11 a0_12 a0_13 = some r) ∧ Aside0 (kq ≤ k) ∧ Aside0 (w'.heap[gb207]? = some (.cells #[.int .i64 a0_0,.int .i64 a0_1,.int .i64 a0_2,.int .i64 a0_3,.int .i64 a0_4,.int .i64 a0_5,.int .i64 a0_6,(.slice A0_7 l0_7.length c0_7),.int .i64 a0_8,.int .i64 a0_9,.int .i64 a0_10,.int .i64 a0_11,.int .i64 a0_12,.int .i64 a0_13] 60 (0,0))) ∧ Aside0 (Below w.heap.size w w'))
 case atStart => exact ⟨(0),(by first | rfl | (simp; done) | (simp [*]; done)),H',⟨Nat.le_refl _⟩,⟨kA BK207.out⟩,⟨bA⟩⟩
 case round =>
  clear H'
  try clear c2
  try clear p2
  obtain ⟨x3_1,rfl,HA,HK1,BK207,HB⟩ := hrel
  cases gk with
  | zero => exact absurd HA.out (by simp [spec_ReaderOK.l0])
  | succ k1 =>
   have H := HA.out
   clear HA
   simp only [spec_ReaderOK.l0] at H
   by_cases c3 : x3_1 < (l0_7.length : Int)
   ·rw [if_pos c3] at H
    have c3b0 : decide (x3_1 < (l0_7.length : Int)) = true := decide_eq_true c3
    clear c3
    by_cases c4 : 0 ≤ x3_1
    ·rw [if_pos c4] at H
     have c4b0 : decide (0 ≤ x3_1) = true := decide_eq_true c4
     clear c4
     replace H := Option.bind_eq_some_iff.mp H
     obtain ⟨t210,A50,H⟩ := H
     try dsimp only at H
     have A5 := Aside0.mk A50
     clear A50
     by_cases c6 : t210 = true
     ·subst c6
      rw [if_pos rfl] at H
      by_cases c7 : ((rd_T84 l0_7 x3_1).f0) = a0_2
      ·rw [if_pos c7] at H
       have c7b0 : (((rd_T84 l0_7 x3_1).f0) == a0_2) = true := beq_iff_eq.mpr c7
       have c7b1 : (((rd_T84 l0_7 x3_1).f0) != a0_2) = false := bne_eq_false_iff_eq.mpr c7
       clear c7
       have H' := Aside0.mk H
       clear H
       have hcz8_0 : wr.cell? ⟨gb207,0,none⟩ = some (.int .i64 a0_0) := (blk_cell BK207.out 0).trans rfl
       have hcz8_1 : wr.cell? ⟨gb207,1,none⟩ = some (.int .i64 a0_1) := (blk_cell BK207.out 1).trans rfl
       have hcz8_2 : wr.cell? ⟨gb207,2,none⟩ = some (.int .i64 a0_2) := (blk_cell BK207.out 2).trans rfl
       have hcz8_3 : wr.cell? ⟨gb207,3,none⟩ = some (.int .i64 a0_3) := (blk_cell BK207.out 3).trans rfl
       have hcz8_4 : wr.cell? ⟨gb207,4,none⟩ = some (.int .i64 a0_4) := (blk_cell BK207.out 4).trans rfl
       have hcz8_5 : wr.cell? ⟨gb207,5,none⟩ = some (.int .i64 a0_5) := (blk_cell BK207.out 5).trans rfl
       have hcz8_6 : wr.cell? ⟨gb207,6,none⟩ = some (.int .i64 a0_6) := (blk_cell BK207.out 6).trans rfl
       have hcz8_7 : wr.cell? ⟨gb207,7,none⟩ = some (.slice A0_7 l0_7.length c0_7) := (blk_cell BK207.out 7).trans rfl
       have hcz8_8 : wr.cell? ⟨gb207,8,none⟩ = some (.int .i64 a0_8) := (blk_cell BK207.out 8).trans rfl
       have hcz8_9 : wr.cell? ⟨gb207,9,none⟩ = some (.int .i64 a0_9) := (blk_cell BK207.out 9).trans rfl
       have hcz8_10 : wr.cell? ⟨gb207,10,none⟩ = some (.int .i64 a0_10) := (blk_cell BK207.out 10).trans rfl
       have hcz8_11 : wr.cell? ⟨gb207,11,none⟩ = some (.int .i64 a0_11) := (blk_cell BK207.out 11).trans rfl
       have hcz8_12 : wr.cell? ⟨gb207,12,none⟩ = some (.int .i64 a0_12) := (blk_cell BK207.out 12).trans rfl
       have hcz8_13 : wr.cell? ⟨gb207,13,none⟩ = some (.int .i64 a0_13) := (blk_cell BK207.out 13).trans rfl
       have hfz8_0 := blk_frozen BK207.out 0
       have hfz8_1 := blk_frozen BK207.out 1
       have hfz8_2 := blk_frozen BK207.out 2
       have hfz8_3 := blk_frozen BK207.out 3
       have hfz8_4 := blk_frozen BK207.out 4
       have hfz8_5 := blk_frozen BK207.out 5
       have hfz8_6 := blk_frozen BK207.out 6
       have hfz8_7 := blk_frozen BK207.out 7
       have hfz8_8 := blk_frozen BK207.out 8
       have hfz8_9 := blk_frozen BK207.out 9
       have hfz8_10 := blk_frozen BK207.out 10
       have hfz8_11 := blk_frozen BK207.out 11
       have hfz8_12 := blk_frozen BK207.out 12
       have hfz8_13 := blk_frozen BK207.out 13
       have p208 : 0 ≤ (x3_1 : Int) := of_decide_eq_true (by first | (with_reducible assumption) | assumption)
       have q208 : x3_1 < (l0_7.length : Int) := of_decide_eq_true (by first | (with_reducible assumption) | assumption)
       obtain ⟨ad208,e208,hx208_0,hx208_1,hx208_2,hx208_3⟩ := at_T84 HR0_7.out x3_1 p208 q208
       cases e208
       replace hx208_0 := (HB.out.cell (World.block_lt_of_cell? w _ hx208_0)).trans hx208_0
       replace hx208_1 := (HB.out.cell (World.block_lt_of_cell? w _ hx208_1)).trans hx208_1
       replace hx208_2 := (HB.out.cell (World.block_lt_of_cell? w _ hx208_2)).trans hx208_2
       replace hx208_3 := (HB.out.cell (World.block_lt_of_cell? w _ hx208_3)).trans hx208_3
       replace p208 := eq_true p208
       replace q208 := eq_true q208
       go_wp2_with (first | ((with_reducible refine gate_dst (N:=4) rfl ?_); (try (refine gate_guard (by rfl) ?_; dsimp only)); refine box_event ?hg (N:=4) ?hd (cs := #[.int .i64 0,.int .i64 0,.int .i64 0,.string (⟨#[]⟩ : ByteArray)]) (t:=84) ?hr ?_; (case hd => rfl); (case hg => rfl); (case hr => first | (go_simp; done) | (go_simp; rfl)); intro gb209 hg w9 hbox hb; have n0_ := Aside0.mk (blk_below (g:=gb207) (o:=.cells #[.int .i64 a0_0,.int .i64 a0_1,.int .i64 a0_2,.int .i64 a0_3,.int .i64 a0_4,.int .i64 a0_5,.int .i64 a0_6,.slice (some ad208) l0_7.length c0_7,.int .i64 a0_8,.int .i64 a0_9,.int .i64 a0_10,.int .i64 a0_11,.int .i64 a0_12,.int .i64 a0_13] 60 (0,0)) (kA BK207.out) hb); have n1_ := Aside0.mk (below_step bA hb); have n2_ := Aside0.mk (hbox); have n3_ := Aside0.mk ((by rw [hg]; exact (below_size bA) : w.heap.size ≤ gb209)); have n4_ := Aside0.mk ((by rw [hg]; exact (below_size bA) : w.heap.size ≤ gb209)); have n5_ := Aside0.mk ((by rw [hg]; exact Nat.ne_of_lt (blk_lt (g:=gb207) (o:=.cells #[.int .i64 a0_0,.int .i64 a0_1,.int .i64 a0_2,.int .i64 a0_3,.int .i64 a0_4,.int .i64 a0_5,.int .i64 a0_6,.slice (some ad208) l0_7.length c0_7,.int .i64 a0_8,.int .i64 a0_9,.int .i64 a0_10,.int .i64 a0_11,.int .i64 a0_12,.int .i64 a0_13] 60 (0,0)) (kA BK207.out)) : gb207 ≠ gb209)); have n6_ := Aside0.mk ((by rw [hg]; exact Nat.ne_of_gt (blk_lt (g:=gb207) (o:=.cells #[.int .i64 a0_0,.int .i64 a0_1,.int .i64 a0_2,.int .i64 a0_3,.int .i64 a0_4,.int .i64 a0_5,.int .i64 a0_6,.slice (some ad208) l0_7.length c0_7,.int .i64 a0_8,.int .i64 a0_9,.int .i64 a0_10,.int .i64 a0_11,.int .i64 a0_12,.int .i64 a0_13] 60 (0,0)) (kA BK207.out)) : gb209 ≠ gb207)); clear BK207; clear HB; have BK207 := n0_; have HB := n1_; have BK209 := n2_; have GW209 := n3_; have GE209 := n4_; have NB207_209 := n5_; have NB209_207 := n6_; clear n0_ n1_ n2_ n3_ n4_ n5_ n6_; clear hb hbox hg; have hnb10 := NB209_207.out; have hnc10 := NB207_209.out; have hcz11_0 : w9.cell? ⟨gb209,0,none⟩ = some (.int .i64 0) := (blk_cell BK209.out 0).trans rfl; have hcz11_1 : w9.cell? ⟨gb209,1,none⟩ = some (.int .i64 0) := (blk_cell BK209.out 1).trans rfl; have hcz11_2 : w9.cell? ⟨gb209,2,none⟩ = some (.int .i64 0) := (blk_cell BK209.out 2).trans rfl; have hcz11_3 : w9.cell? ⟨gb209,3,none⟩ = some (.string (⟨#[]⟩ : ByteArray)) := (blk_cell BK209.out 3).trans rfl; have hfz11_0 := blk_frozen BK209.out 0; have hfz11_1 := blk_frozen BK209.out 1; have hfz11_2 := blk_frozen BK209.out 2; have hfz11_3 := blk_frozen BK209.out 3) | ((with_reducible refine gate_callee (f:=45) rfl ?_); refine goesL_ (some 26) rfl rfl Tryd.func45 (by kernel_rfl) rfl #[.agg #[.int .i64 0,.int .i64 0,.int .i64 ((rd_T84 l0_7 x3_1).f0),.int .i64 ((rd_T84 l0_7 x3_1).f1),.int .i64 ((rd_T84 l0_7 x3_1).f2),.string ((rd_T84 l0_7 x3_1).f3)],.int .i64 0] rfl mA ?_; (with_reducible refine (spec_l06Tiered.calls k1 0 0 ((rd_T84 l0_7 x3_1).f0) ((rd_T84 l0_7 x3_1).f1) ((rd_T84 l0_7 x3_1).f2) ((rd_T84 l0_7 x3_1).f3) 0 true _ A5.out).mono ?_); rintro e w12 ⟨rfl,hb⟩; refine ⟨_,rfl,?_⟩; have n0_ := Aside0.mk (blk_below (g:=gb207) (o:=.cells #[.int .i64 a0_0,.int .i64 a0_1,.int .i64 a0_2,.int .i64 a0_3,.int .i64 a0_4,.int .i64 a0_5,.int .i64 a0_6,.slice (some ad208) l0_7.length c0_7,.int .i64 a0_8,.int .i64 a0_9,.int .i64 a0_10,.int .i64 a0_11,.int .i64 a0_12,.int .i64 a0_13] 60 (0,0)) (kF BK207.out) hb); have n1_ := Aside0.mk (blk_below (g:=gb209) (o:=.cells #[.int .i64 ((rd_T84 l0_7 x3_1).f0),.int .i64 ((rd_T84 l0_7 x3_1).f1),.int .i64 ((rd_T84 l0_7 x3_1).f2),.string ((rd_T84 l0_7 x3_1).f3)] 84 (0,0)) (by (with_reducible repeat (first | refine blk_drewN ?_ _ | refine blk_drew ?_ | refine blk_alloc ?_ _)); refine blk_put (cs := #[.int .i64 ((rd_T84 l0_7 x3_1).f0),.int .i64 ((rd_T84 l0_7 x3_1).f1),.int .i64 ((rd_T84 l0_7 x3_1).f2),.string (⟨#[]⟩ : ByteArray)]) ?_ 3 _ rfl; (with_reducible repeat (first | refine blk_drewN ?_ _ | refine blk_drew ?_ | refine blk_alloc ?_ _)); refine blk_put (cs := #[.int .i64 ((rd_T84 l0_7 x3_1).f0),.int .i64 ((rd_T84 l0_7 x3_1).f1),.int .i64 0,.string (⟨#[]⟩ : ByteArray)]) ?_ 2 _ rfl; (with_reducible repeat (first | refine blk_drewN ?_ _ | refine blk_drew ?_ | refine blk_alloc ?_ _)); refine blk_put (cs := #[.int .i64 ((rd_T84 l0_7 x3_1).f0),.int .i64 0,.int .i64 0,.string (⟨#[]⟩ : ByteArray)]) ?_ 1 _ rfl; (with_reducible repeat (first | refine blk_drewN ?_ _ | refine blk_drew ?_ | refine blk_alloc ?_ _)); refine blk_put (cs := #[.int .i64 0,.int .i64 0,.int .i64 0,.string (⟨#[]⟩ : ByteArray)]) ?_ 0 _ rfl; (with_reducible repeat (first | refine blk_drewN ?_ _ | refine blk_drew ?_ | refine blk_alloc ?_ _)); exact BK209.out) hb); have n2_ := Aside0.mk (below_step bA hb); clear BK207; clear BK209; clear HB; have BK207 := n0_; have BK209 := n1_; have HB := n2_; clear n0_ n1_ n2_; (try clear hb); (try clear hb2); (try clear hk); (try clear hi); have hcz13_0 : w12.cell? ⟨gb209,0,none⟩ = some (.int .i64 ((rd_T84 l0_7 x3_1).f0)) := (blk_cell BK209.out 0).trans rfl; have hcz13_1 : w12.cell? ⟨gb209,1,none⟩ = some (.int .i64 ((rd_T84 l0_7 x3_1).f1)) := (blk_cell BK209.out 1).trans rfl; have hcz13_2 : w12.cell? ⟨gb209,2,none⟩ = some (.int .i64 ((rd_T84 l0_7 x3_1).f2)) := (blk_cell BK209.out 2).trans rfl; have hcz13_3 : w12.cell? ⟨gb209,3,none⟩ = some (.string ((rd_T84 l0_7 x3_1).f3)) := (blk_cell BK209.out 3).trans rfl; have hfz13_0 := blk_frozen BK209.out 0; have hfz13_1 := blk_frozen BK209.out 1; have hfz13_2 := blk_frozen BK209.out 2; have hfz13_3 := blk_frozen BK209.out 3; have hcz14_0 : w12.cell? ⟨gb207,0,none⟩ = some (.int .i64 a0_0) := (blk_cell BK207.out 0).trans rfl; have hcz14_1 : w12.cell? ⟨gb207,1,none⟩ = some (.int .i64 a0_1) := (blk_cell BK207.out 1).trans rfl; have hcz14_2 : w12.cell? ⟨gb207,2,none⟩ = some (.int .i64 a0_2) := (blk_cell BK207.out 2).trans rfl; have hcz14_3 : w12.cell? ⟨gb207,3,none⟩ = some (.int .i64 a0_3) := (blk_cell BK207.out 3).trans rfl; have hcz14_4 : w12.cell? ⟨gb207,4,none⟩ = some (.int .i64 a0_4) := (blk_cell BK207.out 4).trans rfl; have hcz14_5 : w12.cell? ⟨gb207,5,none⟩ = some (.int .i64 a0_5) := (blk_cell BK207.out 5).trans rfl; have hcz14_6 : w12.cell? ⟨gb207,6,none⟩ = some (.int .i64 a0_6) := (blk_cell BK207.out 6).trans rfl; have hcz14_7 : w12.cell? ⟨gb207,7,none⟩ = some (.slice (some ad208) l0_7.length c0_7) := (blk_cell BK207.out 7).trans rfl; have hcz14_8 : w12.cell? ⟨gb207,8,none⟩ = some (.int .i64 a0_8) := (blk_cell BK207.out 8).trans rfl; have hcz14_9 : w12.cell? ⟨gb207,9,none⟩ = some (.int .i64 a0_9) := (blk_cell BK207.out 9).trans rfl; have hcz14_10 : w12.cell? ⟨gb207,10,none⟩ = some (.int .i64 a0_10) := (blk_cell BK207.out 10).trans rfl; have hcz14_11 : w12.cell? ⟨gb207,11,none⟩ = some (.int .i64 a0_11) := (blk_cell BK207.out 11).trans rfl; have hcz14_12 : w12.cell? ⟨gb207,12,none⟩ = some (.int .i64 a0_12) := (blk_cell BK207.out 12).trans rfl; have hcz14_13 : w12.cell? ⟨gb207,13,none⟩ = some (.int .i64 a0_13) := (blk_cell BK207.out 13).trans rfl; have hfz14_0 := blk_frozen BK207.out 0; have hfz14_1 := blk_frozen BK207.out 1; have hfz14_2 := blk_frozen BK207.out 2; have hfz14_3 := blk_frozen BK207.out 3; have hfz14_4 := blk_frozen BK207.out 4; have hfz14_5 := blk_frozen BK207.out 5; have hfz14_6 := blk_frozen BK207.out 6; have hfz14_7 := blk_frozen BK207.out 7; have hfz14_8 := blk_frozen BK207.out 8; have hfz14_9 := blk_frozen BK207.out 9; have hfz14_10 := blk_frozen BK207.out 10; have hfz14_11 := blk_frozen BK207.out 11; have hfz14_12 := blk_frozen BK207.out 12; have hfz14_13 := blk_frozen BK207.out 13))
       go_roundg k1
       case measure => have := HK1.out; omega
       case rel => exact ⟨(wrap64 (x3_1 + 1)),(by first | rfl | (simp; done) | (simp [*]; done)),H',⟨by have := HK1.out; omega⟩,⟨kA BK207.out⟩,⟨bA⟩⟩
      ·rw [if_neg c7] at H
       have c7b0 : (((rd_T84 l0_7 x3_1).f0) == a0_2) = false := beq_eq_false_iff_ne.mpr c7
       have c7b1 : (((rd_T84 l0_7 x3_1).f0) != a0_2) = true := bne_iff_ne.mpr c7
       obtain rfl := Option.some.inj H
       have hcz15_0 : wr.cell? ⟨gb207,0,none⟩ = some (.int .i64 a0_0) := (blk_cell BK207.out 0).trans rfl
       have hcz15_1 : wr.cell? ⟨gb207,1,none⟩ = some (.int .i64 a0_1) := (blk_cell BK207.out 1).trans rfl
       have hcz15_2 : wr.cell? ⟨gb207,2,none⟩ = some (.int .i64 a0_2) := (blk_cell BK207.out 2).trans rfl
       have hcz15_3 : wr.cell? ⟨gb207,3,none⟩ = some (.int .i64 a0_3) := (blk_cell BK207.out 3).trans rfl
       have hcz15_4 : wr.cell? ⟨gb207,4,none⟩ = some (.int .i64 a0_4) := (blk_cell BK207.out 4).trans rfl
       have hcz15_5 : wr.cell? ⟨gb207,5,none⟩ = some (.int .i64 a0_5) := (blk_cell BK207.out 5).trans rfl
       have hcz15_6 : wr.cell? ⟨gb207,6,none⟩ = some (.int .i64 a0_6) := (blk_cell BK207.out 6).trans rfl
       have hcz15_7 : wr.cell? ⟨gb207,7,none⟩ = some (.slice A0_7 l0_7.length c0_7) := (blk_cell BK207.out 7).trans rfl
       have hcz15_8 : wr.cell? ⟨gb207,8,none⟩ = some (.int .i64 a0_8) := (blk_cell BK207.out 8).trans rfl
       have hcz15_9 : wr.cell? ⟨gb207,9,none⟩ = some (.int .i64 a0_9) := (blk_cell BK207.out 9).trans rfl
       have hcz15_10 : wr.cell? ⟨gb207,10,none⟩ = some (.int .i64 a0_10) := (blk_cell BK207.out 10).trans rfl
       have hcz15_11 : wr.cell? ⟨gb207,11,none⟩ = some (.int .i64 a0_11) := (blk_cell BK207.out 11).trans rfl
       have hcz15_12 : wr.cell? ⟨gb207,12,none⟩ = some (.int .i64 a0_12) := (blk_cell BK207.out 12).trans rfl
       have hcz15_13 : wr.cell? ⟨gb207,13,none⟩ = some (.int .i64 a0_13) := (blk_cell BK207.out 13).trans rfl
       have hfz15_0 := blk_frozen BK207.out 0
       have hfz15_1 := blk_frozen BK207.out 1
       have hfz15_2 := blk_frozen BK207.out 2
       have hfz15_3 := blk_frozen BK207.out 3
       have hfz15_4 := blk_frozen BK207.out 4
       have hfz15_5 := blk_frozen BK207.out 5
       have hfz15_6 := blk_frozen BK207.out 6
       have hfz15_7 := blk_frozen BK207.out 7
       have hfz15_8 := blk_frozen BK207.out 8
       have hfz15_9 := blk_frozen BK207.out 9
       have hfz15_10 := blk_frozen BK207.out 10
       have hfz15_11 := blk_frozen BK207.out 11
       have hfz15_12 := blk_frozen BK207.out 12
       have hfz15_13 := blk_frozen BK207.out 13
       have p208 : 0 ≤ (x3_1 : Int) := of_decide_eq_true (by first | (with_reducible assumption) | assumption)
       have q208 : x3_1 < (l0_7.length : Int) := of_decide_eq_true (by first | (with_reducible assumption) | assumption)
       obtain ⟨ad208,e208,hx208_0,hx208_1,hx208_2,hx208_3⟩ := at_T84 HR0_7.out x3_1 p208 q208
       cases e208
       replace hx208_0 := (HB.out.cell (World.block_lt_of_cell? w _ hx208_0)).trans hx208_0
       replace hx208_1 := (HB.out.cell (World.block_lt_of_cell? w _ hx208_1)).trans hx208_1
       replace hx208_2 := (HB.out.cell (World.block_lt_of_cell? w _ hx208_2)).trans hx208_2
       replace hx208_3 := (HB.out.cell (World.block_lt_of_cell? w _ hx208_3)).trans hx208_3
       replace p208 := eq_true p208
       replace q208 := eq_true q208
       go_wp2_with (first | ((with_reducible refine gate_dst (N:=4) rfl ?_); (try (refine gate_guard (by rfl) ?_; dsimp only)); refine box_event ?hg (N:=4) ?hd (cs := #[.int .i64 0,.int .i64 0,.int .i64 0,.string (⟨#[]⟩ : ByteArray)]) (t:=84) ?hr ?_; (case hd => rfl); (case hg => rfl); (case hr => first | (go_simp; done) | (go_simp; rfl)); intro gb209 hg w16 hbox hb; have n0_ := Aside0.mk (blk_below (g:=gb207) (o:=.cells #[.int .i64 a0_0,.int .i64 a0_1,.int .i64 a0_2,.int .i64 a0_3,.int .i64 a0_4,.int .i64 a0_5,.int .i64 a0_6,.slice (some ad208) l0_7.length c0_7,.int .i64 a0_8,.int .i64 a0_9,.int .i64 a0_10,.int .i64 a0_11,.int .i64 a0_12,.int .i64 a0_13] 60 (0,0)) (kA BK207.out) hb); have n1_ := Aside0.mk (below_step bA hb); have n2_ := Aside0.mk (hbox); have n3_ := Aside0.mk ((by rw [hg]; exact (below_size bA) : w.heap.size ≤ gb209)); have n4_ := Aside0.mk ((by rw [hg]; exact (below_size bA) : w.heap.size ≤ gb209)); have n5_ := Aside0.mk ((by rw [hg]; exact Nat.ne_of_lt (blk_lt (g:=gb207) (o:=.cells #[.int .i64 a0_0,.int .i64 a0_1,.int .i64 a0_2,.int .i64 a0_3,.int .i64 a0_4,.int .i64 a0_5,.int .i64 a0_6,.slice (some ad208) l0_7.length c0_7,.int .i64 a0_8,.int .i64 a0_9,.int .i64 a0_10,.int .i64 a0_11,.int .i64 a0_12,.int .i64 a0_13] 60 (0,0)) (kA BK207.out)) : gb207 ≠ gb209)); have n6_ := Aside0.mk ((by rw [hg]; exact Nat.ne_of_gt (blk_lt (g:=gb207) (o:=.cells #[.int .i64 a0_0,.int .i64 a0_1,.int .i64 a0_2,.int .i64 a0_3,.int .i64 a0_4,.int .i64 a0_5,.int .i64 a0_6,.slice (some ad208) l0_7.length c0_7,.int .i64 a0_8,.int .i64 a0_9,.int .i64 a0_10,.int .i64 a0_11,.int .i64 a0_12,.int .i64 a0_13] 60 (0,0)) (kA BK207.out)) : gb209 ≠ gb207)); clear BK207; clear HB; have BK207 := n0_; have HB := n1_; have BK209 := n2_; have GW209 := n3_; have GE209 := n4_; have NB207_209 := n5_; have NB209_207 := n6_; clear n0_ n1_ n2_ n3_ n4_ n5_ n6_; clear hb hbox hg; have hnb17 := NB209_207.out; have hnc17 := NB207_209.out; have hcz18_0 : w16.cell? ⟨gb209,0,none⟩ = some (.int .i64 0) := (blk_cell BK209.out 0).trans rfl; have hcz18_1 : w16.cell? ⟨gb209,1,none⟩ = some (.int .i64 0) := (blk_cell BK209.out 1).trans rfl; have hcz18_2 : w16.cell? ⟨gb209,2,none⟩ = some (.int .i64 0) := (blk_cell BK209.out 2).trans rfl; have hcz18_3 : w16.cell? ⟨gb209,3,none⟩ = some (.string (⟨#[]⟩ : ByteArray)) := (blk_cell BK209.out 3).trans rfl; have hfz18_0 := blk_frozen BK209.out 0; have hfz18_1 := blk_frozen BK209.out 1; have hfz18_2 := blk_frozen BK209.out 2; have hfz18_3 := blk_frozen BK209.out 3) | ((with_reducible refine gate_callee (f:=45) rfl ?_); refine goesL_ (some 26) rfl rfl Tryd.func45 (by kernel_rfl) rfl #[.agg #[.int .i64 0,.int .i64 0,.int .i64 ((rd_T84 l0_7 x3_1).f0),.int .i64 ((rd_T84 l0_7 x3_1).f1),.int .i64 ((rd_T84 l0_7 x3_1).f2),.string ((rd_T84 l0_7 x3_1).f3)],.int .i64 0] rfl mA ?_; (with_reducible refine (spec_l06Tiered.calls k1 0 0 ((rd_T84 l0_7 x3_1).f0) ((rd_T84 l0_7 x3_1).f1) ((rd_T84 l0_7 x3_1).f2) ((rd_T84 l0_7 x3_1).f3) 0 true _ A5.out).mono ?_); rintro e w19 ⟨rfl,hb⟩; refine ⟨_,rfl,?_⟩; have n0_ := Aside0.mk (blk_below (g:=gb207) (o:=.cells #[.int .i64 a0_0,.int .i64 a0_1,.int .i64 a0_2,.int .i64 a0_3,.int .i64 a0_4,.int .i64 a0_5,.int .i64 a0_6,.slice (some ad208) l0_7.length c0_7,.int .i64 a0_8,.int .i64 a0_9,.int .i64 a0_10,.int .i64 a0_11,.int .i64 a0_12,.int .i64 a0_13] 60 (0,0)) (kF BK207.out) hb); have n1_ := Aside0.mk (blk_below (g:=gb209) (o:=.cells #[.int .i64 ((rd_T84 l0_7 x3_1).f0),.int .i64 ((rd_T84 l0_7 x3_1).f1),.int .i64 ((rd_T84 l0_7 x3_1).f2),.string ((rd_T84 l0_7 x3_1).f3)] 84 (0,0)) (by (with_reducible repeat (first | refine blk_drewN ?_ _ | refine blk_drew ?_ | refine blk_alloc ?_ _)); refine blk_put (cs := #[.int .i64 ((rd_T84 l0_7 x3_1).f0),.int .i64 ((rd_T84 l0_7 x3_1).f1),.int .i64 ((rd_T84 l0_7 x3_1).f2),.string (⟨#[]⟩ : ByteArray)]) ?_ 3 _ rfl; (with_reducible repeat (first | refine blk_drewN ?_ _ | refine blk_drew ?_ | refine blk_alloc ?_ _)); refine blk_put (cs := #[.int .i64 ((rd_T84 l0_7 x3_1).f0),.int .i64 ((rd_T84 l0_7 x3_1).f1),.int .i64 0,.string (⟨#[]⟩ : ByteArray)]) ?_ 2 _ rfl; (with_reducible repeat (first | refine blk_drewN ?_ _ | refine blk_drew ?_ | refine blk_alloc ?_ _)); refine blk_put (cs := #[.int .i64 ((rd_T84 l0_7 x3_1).f0),.int .i64 0,.int .i64 0,.string (⟨#[]⟩ : ByteArray)]) ?_ 1 _ rfl; (with_reducible repeat (first | refine blk_drewN ?_ _ | refine blk_drew ?_ | refine blk_alloc ?_ _)); refine blk_put (cs := #[.int .i64 0,.int .i64 0,.int .i64 0,.string (⟨#[]⟩ : ByteArray)]) ?_ 0 _ rfl; (with_reducible repeat (first | refine blk_drewN ?_ _ | refine blk_drew ?_ | refine blk_alloc ?_ _)); exact BK209.out) hb); have n2_ := Aside0.mk (below_step bA hb); clear BK207; clear BK209; clear HB; have BK207 := n0_; have BK209 := n1_; have HB := n2_; clear n0_ n1_ n2_; (try clear hb); (try clear hb2); (try clear hk); (try clear hi); have hcz20_0 : w19.cell? ⟨gb209,0,none⟩ = some (.int .i64 ((rd_T84 l0_7 x3_1).f0)) := (blk_cell BK209.out 0).trans rfl; have hcz20_1 : w19.cell? ⟨gb209,1,none⟩ = some (.int .i64 ((rd_T84 l0_7 x3_1).f1)) := (blk_cell BK209.out 1).trans rfl; have hcz20_2 : w19.cell? ⟨gb209,2,none⟩ = some (.int .i64 ((rd_T84 l0_7 x3_1).f2)) := (blk_cell BK209.out 2).trans rfl; have hcz20_3 : w19.cell? ⟨gb209,3,none⟩ = some (.string ((rd_T84 l0_7 x3_1).f3)) := (blk_cell BK209.out 3).trans rfl; have hfz20_0 := blk_frozen BK209.out 0; have hfz20_1 := blk_frozen BK209.out 1; have hfz20_2 := blk_frozen BK209.out 2; have hfz20_3 := blk_frozen BK209.out 3; have hcz21_0 : w19.cell? ⟨gb207,0,none⟩ = some (.int .i64 a0_0) := (blk_cell BK207.out 0).trans rfl; have hcz21_1 : w19.cell? ⟨gb207,1,none⟩ = some (.int .i64 a0_1) := (blk_cell BK207.out 1).trans rfl; have hcz21_2 : w19.cell? ⟨gb207,2,none⟩ = some (.int .i64 a0_2) := (blk_cell BK207.out 2).trans rfl; have hcz21_3 : w19.cell? ⟨gb207,3,none⟩ = some (.int .i64 a0_3) := (blk_cell BK207.out 3).trans rfl; have hcz21_4 : w19.cell? ⟨gb207,4,none⟩ = some (.int .i64 a0_4) := (blk_cell BK207.out 4).trans rfl; have hcz21_5 : w19.cell? ⟨gb207,5,none⟩ = some (.int .i64 a0_5) := (blk_cell BK207.out 5).trans rfl; have hcz21_6 : w19.cell? ⟨gb207,6,none⟩ = some (.int .i64 a0_6) := (blk_cell BK207.out 6).trans rfl; have hcz21_7 : w19.cell? ⟨gb207,7,none⟩ = some (.slice (some ad208) l0_7.length c0_7) := (blk_cell BK207.out 7).trans rfl; have hcz21_8 : w19.cell? ⟨gb207,8,none⟩ = some (.int .i64 a0_8) := (blk_cell BK207.out 8).trans rfl; have hcz21_9 : w19.cell? ⟨gb207,9,none⟩ = some (.int .i64 a0_9) := (blk_cell BK207.out 9).trans rfl; have hcz21_10 : w19.cell? ⟨gb207,10,none⟩ = some (.int .i64 a0_10) := (blk_cell BK207.out 10).trans rfl; have hcz21_11 : w19.cell? ⟨gb207,11,none⟩ = some (.int .i64 a0_11) := (blk_cell BK207.out 11).trans rfl; have hcz21_12 : w19.cell? ⟨gb207,12,none⟩ = some (.int .i64 a0_12) := (blk_cell BK207.out 12).trans rfl; have hcz21_13 : w19.cell? ⟨gb207,13,none⟩ = some (.int .i64 a0_13) := (blk_cell BK207.out 13).trans rfl; have hfz21_0 := blk_frozen BK207.out 0; have hfz21_1 := blk_frozen BK207.out 1; have hfz21_2 := blk_frozen BK207.out 2; have hfz21_3 := blk_frozen BK207.out 3; have hfz21_4 := blk_frozen BK207.out 4; have hfz21_5 := blk_frozen BK207.out 5; have hfz21_6 := blk_frozen BK207.out 6; have hfz21_7 := blk_frozen BK207.out 7; have hfz21_8 := blk_frozen BK207.out 8; have hfz21_9 := blk_frozen BK207.out 9; have hfz21_10 := blk_frozen BK207.out 10; have hfz21_11 := blk_frozen BK207.out 11; have hfz21_12 := blk_frozen BK207.out 12; have hfz21_13 := blk_frozen BK207.out 13))
       go_ret
       exact ⟨by first | rfl | (simp only [i64_w,i32_w] <;> rfl) | (simp [errW_none,errW_some] <;> rfl) | (simp [*,errW_none,errW_some] <;> rfl),bA⟩
     ·replace c6 := Bool.eq_false_iff.mpr c6
      subst c6
      rw [if_neg (show ¬ (false = true) by decide)] at H
      obtain rfl := Option.some.inj H
      have hcz22_0 : wr.cell? ⟨gb207,0,none⟩ = some (.int .i64 a0_0) := (blk_cell BK207.out 0).trans rfl
      have hcz22_1 : wr.cell? ⟨gb207,1,none⟩ = some (.int .i64 a0_1) := (blk_cell BK207.out 1).trans rfl
      have hcz22_2 : wr.cell? ⟨gb207,2,none⟩ = some (.int .i64 a0_2) := (blk_cell BK207.out 2).trans rfl
      have hcz22_3 : wr.cell? ⟨gb207,3,none⟩ = some (.int .i64 a0_3) := (blk_cell BK207.out 3).trans rfl
      have hcz22_4 : wr.cell? ⟨gb207,4,none⟩ = some (.int .i64 a0_4) := (blk_cell BK207.out 4).trans rfl
      have hcz22_5 : wr.cell? ⟨gb207,5,none⟩ = some (.int .i64 a0_5) := (blk_cell BK207.out 5).trans rfl
      have hcz22_6 : wr.cell? ⟨gb207,6,none⟩ = some (.int .i64 a0_6) := (blk_cell BK207.out 6).trans rfl
      have hcz22_7 : wr.cell? ⟨gb207,7,none⟩ = some (.slice A0_7 l0_7.length c0_7) := (blk_cell BK207.out 7).trans rfl
      have hcz22_8 : wr.cell? ⟨gb207,8,none⟩ = some (.int .i64 a0_8) := (blk_cell BK207.out 8).trans rfl
      have hcz22_9 : wr.cell? ⟨gb207,9,none⟩ = some (.int .i64 a0_9) := (blk_cell BK207.out 9).trans rfl
      have hcz22_10 : wr.cell? ⟨gb207,10,none⟩ = some (.int .i64 a0_10) := (blk_cell BK207.out 10).trans rfl
      have hcz22_11 : wr.cell? ⟨gb207,11,none⟩ = some (.int .i64 a0_11) := (blk_cell BK207.out 11).trans rfl
      have hcz22_12 : wr.cell? ⟨gb207,12,none⟩ = some (.int .i64 a0_12) := (blk_cell BK207.out 12).trans rfl
      have hcz22_13 : wr.cell? ⟨gb207,13,none⟩ = some (.int .i64 a0_13) := (blk_cell BK207.out 13).trans rfl
      have hfz22_0 := blk_frozen BK207.out 0
      have hfz22_1 := blk_frozen BK207.out 1
      have hfz22_2 := blk_frozen BK207.out 2
      have hfz22_3 := blk_frozen BK207.out 3
      have hfz22_4 := blk_frozen BK207.out 4
      have hfz22_5 := blk_frozen BK207.out 5
      have hfz22_6 := blk_frozen BK207.out 6
      have hfz22_7 := blk_frozen BK207.out 7
      have hfz22_8 := blk_frozen BK207.out 8
      have hfz22_9 := blk_frozen BK207.out 9
      have hfz22_10 := blk_frozen BK207.out 10
      have hfz22_11 := blk_frozen BK207.out 11
      have hfz22_12 := blk_frozen BK207.out 12
      have hfz22_13 := blk_frozen BK207.out 13
      have p208 : 0 ≤ (x3_1 : Int) := of_decide_eq_true (by first | (with_reducible assumption) | assumption)
      have q208 : x3_1 < (l0_7.length : Int) := of_decide_eq_true (by first | (with_reducible assumption) | assumption)
      obtain ⟨ad208,e208,hx208_0,hx208_1,hx208_2,hx208_3⟩ := at_T84 HR0_7.out x3_1 p208 q208
      cases e208
      replace hx208_0 := (HB.out.cell (World.block_lt_of_cell? w _ hx208_0)).trans hx208_0
      replace hx208_1 := (HB.out.cell (World.block_lt_of_cell? w _ hx208_1)).trans hx208_1
      replace hx208_2 := (HB.out.cell (World.block_lt_of_cell? w _ hx208_2)).trans hx208_2
      replace hx208_3 := (HB.out.cell (World.block_lt_of_cell? w _ hx208_3)).trans hx208_3
      replace p208 := eq_true p208
      replace q208 := eq_true q208
      go_wp2_with (first | ((with_reducible refine gate_dst (N:=4) rfl ?_); (try (refine gate_guard (by rfl) ?_; dsimp only)); refine box_event ?hg (N:=4) ?hd (cs := #[.int .i64 0,.int .i64 0,.int .i64 0,.string (⟨#[]⟩ : ByteArray)]) (t:=84) ?hr ?_; (case hd => rfl); (case hg => rfl); (case hr => first | (go_simp; done) | (go_simp; rfl)); intro gb209 hg w23 hbox hb; have n0_ := Aside0.mk (blk_below (g:=gb207) (o:=.cells #[.int .i64 a0_0,.int .i64 a0_1,.int .i64 a0_2,.int .i64 a0_3,.int .i64 a0_4,.int .i64 a0_5,.int .i64 a0_6,.slice (some ad208) l0_7.length c0_7,.int .i64 a0_8,.int .i64 a0_9,.int .i64 a0_10,.int .i64 a0_11,.int .i64 a0_12,.int .i64 a0_13] 60 (0,0)) (kA BK207.out) hb); have n1_ := Aside0.mk (below_step bA hb); have n2_ := Aside0.mk (hbox); have n3_ := Aside0.mk ((by rw [hg]; exact (below_size bA) : w.heap.size ≤ gb209)); have n4_ := Aside0.mk ((by rw [hg]; exact (below_size bA) : w.heap.size ≤ gb209)); have n5_ := Aside0.mk ((by rw [hg]; exact Nat.ne_of_lt (blk_lt (g:=gb207) (o:=.cells #[.int .i64 a0_0,.int .i64 a0_1,.int .i64 a0_2,.int .i64 a0_3,.int .i64 a0_4,.int .i64 a0_5,.int .i64 a0_6,.slice (some ad208) l0_7.length c0_7,.int .i64 a0_8,.int .i64 a0_9,.int .i64 a0_10,.int .i64 a0_11,.int .i64 a0_12,.int .i64 a0_13] 60 (0,0)) (kA BK207.out)) : gb207 ≠ gb209)); have n6_ := Aside0.mk ((by rw [hg]; exact Nat.ne_of_gt (blk_lt (g:=gb207) (o:=.cells #[.int .i64 a0_0,.int .i64 a0_1,.int .i64 a0_2,.int .i64 a0_3,.int .i64 a0_4,.int .i64 a0_5,.int .i64 a0_6,.slice (some ad208) l0_7.length c0_7,.int .i64 a0_8,.int .i64 a0_9,.int .i64 a0_10,.int .i64 a0_11,.int .i64 a0_12,.int .i64 a0_13] 60 (0,0)) (kA BK207.out)) : gb209 ≠ gb207)); clear BK207; clear HB; have BK207 := n0_; have HB := n1_; have BK209 := n2_; have GW209 := n3_; have GE209 := n4_; have NB207_209 := n5_; have NB209_207 := n6_; clear n0_ n1_ n2_ n3_ n4_ n5_ n6_; clear hb hbox hg; have hnb24 := NB209_207.out; have hnc24 := NB207_209.out; have hcz25_0 : w23.cell? ⟨gb209,0,none⟩ = some (.int .i64 0) := (blk_cell BK209.out 0).trans rfl; have hcz25_1 : w23.cell? ⟨gb209,1,none⟩ = some (.int .i64 0) := (blk_cell BK209.out 1).trans rfl; have hcz25_2 : w23.cell? ⟨gb209,2,none⟩ = some (.int .i64 0) := (blk_cell BK209.out 2).trans rfl; have hcz25_3 : w23.cell? ⟨gb209,3,none⟩ = some (.string (⟨#[]⟩ : ByteArray)) := (blk_cell BK209.out 3).trans rfl; have hfz25_0 := blk_frozen BK209.out 0; have hfz25_1 := blk_frozen BK209.out 1; have hfz25_2 := blk_frozen BK209.out 2; have hfz25_3 := blk_frozen BK209.out 3) | ((with_reducible refine gate_callee (f:=45) rfl ?_); refine goesL_ (some 26) rfl rfl Tryd.func45 (by kernel_rfl) rfl #[.agg #[.int .i64 0,.int .i64 0,.int .i64 ((rd_T84 l0_7 x3_1).f0),.int .i64 ((rd_T84 l0_7 x3_1).f1),.int .i64 ((rd_T84 l0_7 x3_1).f2),.string ((rd_T84 l0_7 x3_1).f3)],.int .i64 0] rfl mA ?_; (with_reducible refine (spec_l06Tiered.calls k1 0 0 ((rd_T84 l0_7 x3_1).f0) ((rd_T84 l0_7 x3_1).f1) ((rd_T84 l0_7 x3_1).f2) ((rd_T84 l0_7 x3_1).f3) 0 false _ A5.out).mono ?_); rintro e w26 ⟨rfl,hb⟩; refine ⟨_,rfl,?_⟩; have n0_ := Aside0.mk (blk_below (g:=gb207) (o:=.cells #[.int .i64 a0_0,.int .i64 a0_1,.int .i64 a0_2,.int .i64 a0_3,.int .i64 a0_4,.int .i64 a0_5,.int .i64 a0_6,.slice (some ad208) l0_7.length c0_7,.int .i64 a0_8,.int .i64 a0_9,.int .i64 a0_10,.int .i64 a0_11,.int .i64 a0_12,.int .i64 a0_13] 60 (0,0)) (kF BK207.out) hb); have n1_ := Aside0.mk (blk_below (g:=gb209) (o:=.cells #[.int .i64 ((rd_T84 l0_7 x3_1).f0),.int .i64 ((rd_T84 l0_7 x3_1).f1),.int .i64 ((rd_T84 l0_7 x3_1).f2),.string ((rd_T84 l0_7 x3_1).f3)] 84 (0,0)) (by (with_reducible repeat (first | refine blk_drewN ?_ _ | refine blk_drew ?_ | refine blk_alloc ?_ _)); refine blk_put (cs := #[.int .i64 ((rd_T84 l0_7 x3_1).f0),.int .i64 ((rd_T84 l0_7 x3_1).f1),.int .i64 ((rd_T84 l0_7 x3_1).f2),.string (⟨#[]⟩ : ByteArray)]) ?_ 3 _ rfl; (with_reducible repeat (first | refine blk_drewN ?_ _ | refine blk_drew ?_ | refine blk_alloc ?_ _)); refine blk_put (cs := #[.int .i64 ((rd_T84 l0_7 x3_1).f0),.int .i64 ((rd_T84 l0_7 x3_1).f1),.int .i64 0,.string (⟨#[]⟩ : ByteArray)]) ?_ 2 _ rfl; (with_reducible repeat (first | refine blk_drewN ?_ _ | refine blk_drew ?_ | refine blk_alloc ?_ _)); refine blk_put (cs := #[.int .i64 ((rd_T84 l0_7 x3_1).f0),.int .i64 0,.int .i64 0,.string (⟨#[]⟩ : ByteArray)]) ?_ 1 _ rfl; (with_reducible repeat (first | refine blk_drewN ?_ _ | refine blk_drew ?_ | refine blk_alloc ?_ _)); refine blk_put (cs := #[.int .i64 0,.int .i64 0,.int .i64 0,.string (⟨#[]⟩ : ByteArray)]) ?_ 0 _ rfl; (with_reducible repeat (first | refine blk_drewN ?_ _ | refine blk_drew ?_ | refine blk_alloc ?_ _)); exact BK209.out) hb); have n2_ := Aside0.mk (below_step bA hb); clear BK207; clear BK209; clear HB; have BK207 := n0_; have BK209 := n1_; have HB := n2_; clear n0_ n1_ n2_; (try clear hb); (try clear hb2); (try clear hk); (try clear hi)))
      go_ret
      exact ⟨by first | rfl | (simp only [i64_w,i32_w] <;> rfl) | (simp [errW_none,errW_some] <;> rfl) | (simp [*,errW_none,errW_some] <;> rfl),bA⟩
    ·rw [if_neg c4] at H
     exact absurd H (by simp)
   ·rw [if_neg c3] at H
    have c3b0 : decide (x3_1 < (l0_7.length : Int)) = false := decide_eq_false c3
    clear c3
    have HC27 := Aside0.mk H
    clear H
    have hcz28_0 : wr.cell? ⟨gb207,0,none⟩ = some (.int .i64 a0_0) := (blk_cell BK207.out 0).trans rfl
    have hcz28_1 : wr.cell? ⟨gb207,1,none⟩ = some (.int .i64 a0_1) := (blk_cell BK207.out 1).trans rfl
    have hcz28_2 : wr.cell? ⟨gb207,2,none⟩ = some (.int .i64 a0_2) := (blk_cell BK207.out 2).trans rfl
    have hcz28_3 : wr.cell? ⟨gb207,3,none⟩ = some (.int .i64 a0_3) := (blk_cell BK207.out 3).trans rfl
    have hcz28_4 : wr.cell? ⟨gb207,4,none⟩ = some (.int .i64 a0_4) := (blk_cell BK207.out 4).trans rfl
    have hcz28_5 : wr.cell? ⟨gb207,5,none⟩ = some (.int .i64 a0_5) := (blk_cell BK207.out 5).trans rfl
    have hcz28_6 : wr.cell? ⟨gb207,6,none⟩ = some (.int .i64 a0_6) := (blk_cell BK207.out 6).trans rfl
    have hcz28_7 : wr.cell? ⟨gb207,7,none⟩ = some (.slice A0_7 l0_7.length c0_7) := (blk_cell BK207.out 7).trans rfl
    have hcz28_8 : wr.cell? ⟨gb207,8,none⟩ = some (.int .i64 a0_8) := (blk_cell BK207.out 8).trans rfl
    have hcz28_9 : wr.cell? ⟨gb207,9,none⟩ = some (.int .i64 a0_9) := (blk_cell BK207.out 9).trans rfl
    have hcz28_10 : wr.cell? ⟨gb207,10,none⟩ = some (.int .i64 a0_10) := (blk_cell BK207.out 10).trans rfl
    have hcz28_11 : wr.cell? ⟨gb207,11,none⟩ = some (.int .i64 a0_11) := (blk_cell BK207.out 11).trans rfl
    have hcz28_12 : wr.cell? ⟨gb207,12,none⟩ = some (.int .i64 a0_12) := (blk_cell BK207.out 12).trans rfl
    have hcz28_13 : wr.cell? ⟨gb207,13,none⟩ = some (.int .i64 a0_13) := (blk_cell BK207.out 13).trans rfl
    have hfz28_0 := blk_frozen BK207.out 0
    have hfz28_1 := blk_frozen BK207.out 1
    have hfz28_2 := blk_frozen BK207.out 2
    have hfz28_3 := blk_frozen BK207.out 3
    have hfz28_4 := blk_frozen BK207.out 4
    have hfz28_5 := blk_frozen BK207.out 5
    have hfz28_6 := blk_frozen BK207.out 6
    have hfz28_7 := blk_frozen BK207.out 7
    have hfz28_8 := blk_frozen BK207.out 8
    have hfz28_9 := blk_frozen BK207.out 9
    have hfz28_10 := blk_frozen BK207.out 10
    have hfz28_11 := blk_frozen BK207.out 11
    have hfz28_12 := blk_frozen BK207.out 12
    have hfz28_13 := blk_frozen BK207.out 13
    go_upto_region 7 with (fail)
    go_cut [74] (fun v74 wc => ∃ (kq : Nat) (x74_26 : Bool),v74 = .bool x74_26 ∧ Aside0 (spec_ReaderOK.j1 kq x74_26 a0_0 a0_1 a0_2 a0_3 a0_4 a0_5 a0_6 l0_7 a0_8 a0_9 a0_10 a0_11 a0_12 a0_13 = some r) ∧ Aside0 (kq ≤ k1) ∧ Aside0 (wc.heap[gb207]? = some (.cells #[.int .i64 a0_0,.int .i64 a0_1,.int .i64 a0_2,.int .i64 a0_3,.int .i64 a0_4,.int .i64 a0_5,.int .i64 a0_6,(.slice A0_7 l0_7.length c0_7),.int .i64 a0_8,.int .i64 a0_9,.int .i64 a0_10,.int .i64 a0_11,.int .i64 a0_12,.int .i64 a0_13] 60 (0,0))) ∧ Aside0 (Below w.heap.size w wc))
    case first =>
     have H := HC27.out
     clear HC27
     replace H := Option.bind_eq_some_iff.mp H
     obtain ⟨t211,A290,H⟩ := H
     try dsimp only at H
     have A29 := Aside0.mk A290
     clear A290
     by_cases c30 : t211 = true
     ·subst c30
      rw [if_pos rfl] at H
      replace H := Option.bind_eq_some_iff.mp H
      obtain ⟨t212,A310,H⟩ := H
      try dsimp only at H
      have A31 := Aside0.mk A310
      clear A310
      by_cases c32 : t212 = true
      ·subst c32
       rw [if_pos rfl] at H
       replace H := Option.bind_eq_some_iff.mp H
       obtain ⟨t213,A330,H⟩ := H
       try dsimp only at H
       have A33 := Aside0.mk A330
       clear A330
       by_cases c34 : t213 = true
       ·subst c34
        rw [if_pos rfl] at H
        replace H := Option.bind_eq_some_iff.mp H
        obtain ⟨t214,A350,H⟩ := H
        try dsimp only at H
        have A35 := Aside0.mk A350
        clear A350
        by_cases c36 : t214 = true
        ·subst c36
         rw [if_pos rfl] at H
         replace H := Option.bind_eq_some_iff.mp H
         obtain ⟨t215,A370,H⟩ := H
         try dsimp only at H
         have A37 := Aside0.mk A370
         clear A370
         by_cases c38 : t215 = true
         ·subst c38
          rw [if_pos rfl] at H
          by_cases c39 : a0_8 > 1000
          ·rw [if_pos c39] at H
           have c39b0 : decide (1000 < a0_8) = true := decide_eq_true c39
           clear c39
           (first | rw [c39b0] | (simp only [i64_w,i32_w]; rw [c39b0]) | skip)
           have H' := Aside0.mk H
           clear H
           have hcz40_0 : wr.cell? ⟨gb207,0,none⟩ = some (.int .i64 a0_0) := (blk_cell BK207.out 0).trans rfl
           have hcz40_1 : wr.cell? ⟨gb207,1,none⟩ = some (.int .i64 a0_1) := (blk_cell BK207.out 1).trans rfl
           have hcz40_2 : wr.cell? ⟨gb207,2,none⟩ = some (.int .i64 a0_2) := (blk_cell BK207.out 2).trans rfl
           have hcz40_3 : wr.cell? ⟨gb207,3,none⟩ = some (.int .i64 a0_3) := (blk_cell BK207.out 3).trans rfl
           have hcz40_4 : wr.cell? ⟨gb207,4,none⟩ = some (.int .i64 a0_4) := (blk_cell BK207.out 4).trans rfl
           have hcz40_5 : wr.cell? ⟨gb207,5,none⟩ = some (.int .i64 a0_5) := (blk_cell BK207.out 5).trans rfl
           have hcz40_6 : wr.cell? ⟨gb207,6,none⟩ = some (.int .i64 a0_6) := (blk_cell BK207.out 6).trans rfl
           have hcz40_7 : wr.cell? ⟨gb207,7,none⟩ = some (.slice A0_7 l0_7.length c0_7) := (blk_cell BK207.out 7).trans rfl
           have hcz40_8 : wr.cell? ⟨gb207,8,none⟩ = some (.int .i64 a0_8) := (blk_cell BK207.out 8).trans rfl
           have hcz40_9 : wr.cell? ⟨gb207,9,none⟩ = some (.int .i64 a0_9) := (blk_cell BK207.out 9).trans rfl
           have hcz40_10 : wr.cell? ⟨gb207,10,none⟩ = some (.int .i64 a0_10) := (blk_cell BK207.out 10).trans rfl
           have hcz40_11 : wr.cell? ⟨gb207,11,none⟩ = some (.int .i64 a0_11) := (blk_cell BK207.out 11).trans rfl
           have hcz40_12 : wr.cell? ⟨gb207,12,none⟩ = some (.int .i64 a0_12) := (blk_cell BK207.out 12).trans rfl
           have hcz40_13 : wr.cell? ⟨gb207,13,none⟩ = some (.int .i64 a0_13) := (blk_cell BK207.out 13).trans rfl
           have hfz40_0 := blk_frozen BK207.out 0
           have hfz40_1 := blk_frozen BK207.out 1
           have hfz40_2 := blk_frozen BK207.out 2
           have hfz40_3 := blk_frozen BK207.out 3
           have hfz40_4 := blk_frozen BK207.out 4
           have hfz40_5 := blk_frozen BK207.out 5
           have hfz40_6 := blk_frozen BK207.out 6
           have hfz40_7 := blk_frozen BK207.out 7
           have hfz40_8 := blk_frozen BK207.out 8
           have hfz40_9 := blk_frozen BK207.out 9
           have hfz40_10 := blk_frozen BK207.out 10
           have hfz40_11 := blk_frozen BK207.out 11
           have hfz40_12 := blk_frozen BK207.out 12
           have hfz40_13 := blk_frozen BK207.out 13
           go_wp2_with (first | ((with_reducible refine gate_callee (f:=46) rfl ?_); refine goesL_ (some 37) rfl rfl Tryd.func46 (by kernel_rfl) rfl #[.int .i64 a0_0,.int .i64 0,.int .i64 9] rfl mA ?_; (with_reducible refine (spec_l01In.calls a0_0 0 9 true _ A29.out).mono ?_); rintro e w' ⟨rfl,⟨nd,rfl⟩⟩; refine ⟨_,rfl,?_⟩) | (go_at_call 46; (with_reducible refine (spec_l01In.calls a0_1 0 4 true _ A31.out).mono ?_); rintro e w' ⟨rfl,⟨nd,rfl⟩⟩) | (go_at_call 46; (with_reducible refine (spec_l01In.calls a0_5 0 200000 true _ A33.out).mono ?_); rintro e w' ⟨rfl,⟨nd,rfl⟩⟩) | (go_at_call 46; (with_reducible refine (spec_l01In.calls a0_6 0 19 true _ A35.out).mono ?_); rintro e w' ⟨rfl,⟨nd,rfl⟩⟩) | (go_at_call 49; (with_reducible refine (spec_AggOK.calls a0_8 a0_9 a0_10 a0_11 a0_12 a0_13 true _ A37.out).mono ?_); rintro e w41 ⟨rfl,hb⟩; have n0_ := Aside0.mk (blk_below (g:=gb207) (o:=.cells #[.int .i64 a0_0,.int .i64 a0_1,.int .i64 a0_2,.int .i64 a0_3,.int .i64 a0_4,.int .i64 a0_5,.int .i64 a0_6,.slice A0_7 l0_7.length c0_7,.int .i64 a0_8,.int .i64 a0_9,.int .i64 a0_10,.int .i64 a0_11,.int .i64 a0_12,.int .i64 a0_13] 60 (0,0)) (kA BK207.out) hb); have n1_ := Aside0.mk (below_step bA hb); clear BK207; clear HB; have BK207 := n0_; have HB := n1_; clear n0_ n1_; (try clear hb); (try clear hb2); (try clear hk); (try clear hi); have hcz42_0 : w41.cell? ⟨gb207,0,none⟩ = some (.int .i64 a0_0) := (blk_cell BK207.out 0).trans rfl; have hcz42_1 : w41.cell? ⟨gb207,1,none⟩ = some (.int .i64 a0_1) := (blk_cell BK207.out 1).trans rfl; have hcz42_2 : w41.cell? ⟨gb207,2,none⟩ = some (.int .i64 a0_2) := (blk_cell BK207.out 2).trans rfl; have hcz42_3 : w41.cell? ⟨gb207,3,none⟩ = some (.int .i64 a0_3) := (blk_cell BK207.out 3).trans rfl; have hcz42_4 : w41.cell? ⟨gb207,4,none⟩ = some (.int .i64 a0_4) := (blk_cell BK207.out 4).trans rfl; have hcz42_5 : w41.cell? ⟨gb207,5,none⟩ = some (.int .i64 a0_5) := (blk_cell BK207.out 5).trans rfl; have hcz42_6 : w41.cell? ⟨gb207,6,none⟩ = some (.int .i64 a0_6) := (blk_cell BK207.out 6).trans rfl; have hcz42_7 : w41.cell? ⟨gb207,7,none⟩ = some (.slice A0_7 l0_7.length c0_7) := (blk_cell BK207.out 7).trans rfl; have hcz42_8 : w41.cell? ⟨gb207,8,none⟩ = some (.int .i64 a0_8) := (blk_cell BK207.out 8).trans rfl; have hcz42_9 : w41.cell? ⟨gb207,9,none⟩ = some (.int .i64 a0_9) := (blk_cell BK207.out 9).trans rfl; have hcz42_10 : w41.cell? ⟨gb207,10,none⟩ = some (.int .i64 a0_10) := (blk_cell BK207.out 10).trans rfl; have hcz42_11 : w41.cell? ⟨gb207,11,none⟩ = some (.int .i64 a0_11) := (blk_cell BK207.out 11).trans rfl; have hcz42_12 : w41.cell? ⟨gb207,12,none⟩ = some (.int .i64 a0_12) := (blk_cell BK207.out 12).trans rfl; have hcz42_13 : w41.cell? ⟨gb207,13,none⟩ = some (.int .i64 a0_13) := (blk_cell BK207.out 13).trans rfl; have hfz42_0 := blk_frozen BK207.out 0; have hfz42_1 := blk_frozen BK207.out 1; have hfz42_2 := blk_frozen BK207.out 2; have hfz42_3 := blk_frozen BK207.out 3; have hfz42_4 := blk_frozen BK207.out 4; have hfz42_5 := blk_frozen BK207.out 5; have hfz42_6 := blk_frozen BK207.out 6; have hfz42_7 := blk_frozen BK207.out 7; have hfz42_8 := blk_frozen BK207.out 8; have hfz42_9 := blk_frozen BK207.out 9; have hfz42_10 := blk_frozen BK207.out 10; have hfz42_11 := blk_frozen BK207.out 11; have hfz42_12 := blk_frozen BK207.out 12; have hfz42_13 := blk_frozen BK207.out 13))
           go_meet
           case rel => exact ⟨_,(true),(by first | rfl | (simp; done) | (simp [*]; done)),H',⟨by have := HK1.out; first | omega | exact Nat.le_refl _⟩,⟨kA BK207.out⟩,⟨bA⟩⟩
          ·rw [if_neg c39] at H
           have c39b0 : decide (1000 < a0_8) = false := decide_eq_false c39
           clear c39
           (first | rw [c39b0] | (simp only [i64_w,i32_w]; rw [c39b0]) | skip)
           have H' := Aside0.mk H
           clear H
           have hcz43_0 : wr.cell? ⟨gb207,0,none⟩ = some (.int .i64 a0_0) := (blk_cell BK207.out 0).trans rfl
           have hcz43_1 : wr.cell? ⟨gb207,1,none⟩ = some (.int .i64 a0_1) := (blk_cell BK207.out 1).trans rfl
           have hcz43_2 : wr.cell? ⟨gb207,2,none⟩ = some (.int .i64 a0_2) := (blk_cell BK207.out 2).trans rfl
           have hcz43_3 : wr.cell? ⟨gb207,3,none⟩ = some (.int .i64 a0_3) := (blk_cell BK207.out 3).trans rfl
           have hcz43_4 : wr.cell? ⟨gb207,4,none⟩ = some (.int .i64 a0_4) := (blk_cell BK207.out 4).trans rfl
           have hcz43_5 : wr.cell? ⟨gb207,5,none⟩ = some (.int .i64 a0_5) := (blk_cell BK207.out 5).trans rfl
           have hcz43_6 : wr.cell? ⟨gb207,6,none⟩ = some (.int .i64 a0_6) := (blk_cell BK207.out 6).trans rfl
           have hcz43_7 : wr.cell? ⟨gb207,7,none⟩ = some (.slice A0_7 l0_7.length c0_7) := (blk_cell BK207.out 7).trans rfl
           have hcz43_8 : wr.cell? ⟨gb207,8,none⟩ = some (.int .i64 a0_8) := (blk_cell BK207.out 8).trans rfl
           have hcz43_9 : wr.cell? ⟨gb207,9,none⟩ = some (.int .i64 a0_9) := (blk_cell BK207.out 9).trans rfl
           have hcz43_10 : wr.cell? ⟨gb207,10,none⟩ = some (.int .i64 a0_10) := (blk_cell BK207.out 10).trans rfl
           have hcz43_11 : wr.cell? ⟨gb207,11,none⟩ = some (.int .i64 a0_11) := (blk_cell BK207.out 11).trans rfl
           have hcz43_12 : wr.cell? ⟨gb207,12,none⟩ = some (.int .i64 a0_12) := (blk_cell BK207.out 12).trans rfl
           have hcz43_13 : wr.cell? ⟨gb207,13,none⟩ = some (.int .i64 a0_13) := (blk_cell BK207.out 13).trans rfl
           have hfz43_0 := blk_frozen BK207.out 0
           have hfz43_1 := blk_frozen BK207.out 1
           have hfz43_2 := blk_frozen BK207.out 2
           have hfz43_3 := blk_frozen BK207.out 3
           have hfz43_4 := blk_frozen BK207.out 4
           have hfz43_5 := blk_frozen BK207.out 5
           have hfz43_6 := blk_frozen BK207.out 6
           have hfz43_7 := blk_frozen BK207.out 7
           have hfz43_8 := blk_frozen BK207.out 8
           have hfz43_9 := blk_frozen BK207.out 9
           have hfz43_10 := blk_frozen BK207.out 10
           have hfz43_11 := blk_frozen BK207.out 11
           have hfz43_12 := blk_frozen BK207.out 12
           have hfz43_13 := blk_frozen BK207.out 13
           go_wp2_with (first | ((with_reducible refine gate_callee (f:=46) rfl ?_); refine goesL_ (some 37) rfl rfl Tryd.func46 (by kernel_rfl) rfl #[.int .i64 a0_0,.int .i64 0,.int .i64 9] rfl mA ?_; (with_reducible refine (spec_l01In.calls a0_0 0 9 true _ A29.out).mono ?_); rintro e w' ⟨rfl,⟨nd,rfl⟩⟩; refine ⟨_,rfl,?_⟩) | (go_at_call 46; (with_reducible refine (spec_l01In.calls a0_1 0 4 true _ A31.out).mono ?_); rintro e w' ⟨rfl,⟨nd,rfl⟩⟩) | (go_at_call 46; (with_reducible refine (spec_l01In.calls a0_5 0 200000 true _ A33.out).mono ?_); rintro e w' ⟨rfl,⟨nd,rfl⟩⟩) | (go_at_call 46; (with_reducible refine (spec_l01In.calls a0_6 0 19 true _ A35.out).mono ?_); rintro e w' ⟨rfl,⟨nd,rfl⟩⟩) | (go_at_call 49; (with_reducible refine (spec_AggOK.calls a0_8 a0_9 a0_10 a0_11 a0_12 a0_13 true _ A37.out).mono ?_); rintro e w44 ⟨rfl,hb⟩; have n0_ := Aside0.mk (blk_below (g:=gb207) (o:=.cells #[.int .i64 a0_0,.int .i64 a0_1,.int .i64 a0_2,.int .i64 a0_3,.int .i64 a0_4,.int .i64 a0_5,.int .i64 a0_6,.slice A0_7 l0_7.length c0_7,.int .i64 a0_8,.int .i64 a0_9,.int .i64 a0_10,.int .i64 a0_11,.int .i64 a0_12,.int .i64 a0_13] 60 (0,0)) (kA BK207.out) hb); have n1_ := Aside0.mk (below_step bA hb); clear BK207; clear HB; have BK207 := n0_; have HB := n1_; clear n0_ n1_; (try clear hb); (try clear hb2); (try clear hk); (try clear hi); have hcz45_0 : w44.cell? ⟨gb207,0,none⟩ = some (.int .i64 a0_0) := (blk_cell BK207.out 0).trans rfl; have hcz45_1 : w44.cell? ⟨gb207,1,none⟩ = some (.int .i64 a0_1) := (blk_cell BK207.out 1).trans rfl; have hcz45_2 : w44.cell? ⟨gb207,2,none⟩ = some (.int .i64 a0_2) := (blk_cell BK207.out 2).trans rfl; have hcz45_3 : w44.cell? ⟨gb207,3,none⟩ = some (.int .i64 a0_3) := (blk_cell BK207.out 3).trans rfl; have hcz45_4 : w44.cell? ⟨gb207,4,none⟩ = some (.int .i64 a0_4) := (blk_cell BK207.out 4).trans rfl; have hcz45_5 : w44.cell? ⟨gb207,5,none⟩ = some (.int .i64 a0_5) := (blk_cell BK207.out 5).trans rfl; have hcz45_6 : w44.cell? ⟨gb207,6,none⟩ = some (.int .i64 a0_6) := (blk_cell BK207.out 6).trans rfl; have hcz45_7 : w44.cell? ⟨gb207,7,none⟩ = some (.slice A0_7 l0_7.length c0_7) := (blk_cell BK207.out 7).trans rfl; have hcz45_8 : w44.cell? ⟨gb207,8,none⟩ = some (.int .i64 a0_8) := (blk_cell BK207.out 8).trans rfl; have hcz45_9 : w44.cell? ⟨gb207,9,none⟩ = some (.int .i64 a0_9) := (blk_cell BK207.out 9).trans rfl; have hcz45_10 : w44.cell? ⟨gb207,10,none⟩ = some (.int .i64 a0_10) := (blk_cell BK207.out 10).trans rfl; have hcz45_11 : w44.cell? ⟨gb207,11,none⟩ = some (.int .i64 a0_11) := (blk_cell BK207.out 11).trans rfl; have hcz45_12 : w44.cell? ⟨gb207,12,none⟩ = some (.int .i64 a0_12) := (blk_cell BK207.out 12).trans rfl; have hcz45_13 : w44.cell? ⟨gb207,13,none⟩ = some (.int .i64 a0_13) := (blk_cell BK207.out 13).trans rfl; have hfz45_0 := blk_frozen BK207.out 0; have hfz45_1 := blk_frozen BK207.out 1; have hfz45_2 := blk_frozen BK207.out 2; have hfz45_3 := blk_frozen BK207.out 3; have hfz45_4 := blk_frozen BK207.out 4; have hfz45_5 := blk_frozen BK207.out 5; have hfz45_6 := blk_frozen BK207.out 6; have hfz45_7 := blk_frozen BK207.out 7; have hfz45_8 := blk_frozen BK207.out 8; have hfz45_9 := blk_frozen BK207.out 9; have hfz45_10 := blk_frozen BK207.out 10; have hfz45_11 := blk_frozen BK207.out 11; have hfz45_12 := blk_frozen BK207.out 12; have hfz45_13 := blk_frozen BK207.out 13))
           go_meet
           case rel => exact ⟨_,(decide ((l0_7.length : Int) > 300)),(by first | rfl | (simp; done) | (simp [*]; done)),H',⟨by have := HK1.out; first | omega | exact Nat.le_refl _⟩,⟨kA BK207.out⟩,⟨bA⟩⟩
         ·replace c38 := Bool.eq_false_iff.mpr c38
          subst c38
          rw [if_neg (show ¬ (false = true) by decide)] at H
          have H' := Aside0.mk H
          clear H
          have hcz46_0 : wr.cell? ⟨gb207,0,none⟩ = some (.int .i64 a0_0) := (blk_cell BK207.out 0).trans rfl
          have hcz46_1 : wr.cell? ⟨gb207,1,none⟩ = some (.int .i64 a0_1) := (blk_cell BK207.out 1).trans rfl
          have hcz46_2 : wr.cell? ⟨gb207,2,none⟩ = some (.int .i64 a0_2) := (blk_cell BK207.out 2).trans rfl
          have hcz46_3 : wr.cell? ⟨gb207,3,none⟩ = some (.int .i64 a0_3) := (blk_cell BK207.out 3).trans rfl
          have hcz46_4 : wr.cell? ⟨gb207,4,none⟩ = some (.int .i64 a0_4) := (blk_cell BK207.out 4).trans rfl
          have hcz46_5 : wr.cell? ⟨gb207,5,none⟩ = some (.int .i64 a0_5) := (blk_cell BK207.out 5).trans rfl
          have hcz46_6 : wr.cell? ⟨gb207,6,none⟩ = some (.int .i64 a0_6) := (blk_cell BK207.out 6).trans rfl
          have hcz46_7 : wr.cell? ⟨gb207,7,none⟩ = some (.slice A0_7 l0_7.length c0_7) := (blk_cell BK207.out 7).trans rfl
          have hcz46_8 : wr.cell? ⟨gb207,8,none⟩ = some (.int .i64 a0_8) := (blk_cell BK207.out 8).trans rfl
          have hcz46_9 : wr.cell? ⟨gb207,9,none⟩ = some (.int .i64 a0_9) := (blk_cell BK207.out 9).trans rfl
          have hcz46_10 : wr.cell? ⟨gb207,10,none⟩ = some (.int .i64 a0_10) := (blk_cell BK207.out 10).trans rfl
          have hcz46_11 : wr.cell? ⟨gb207,11,none⟩ = some (.int .i64 a0_11) := (blk_cell BK207.out 11).trans rfl
          have hcz46_12 : wr.cell? ⟨gb207,12,none⟩ = some (.int .i64 a0_12) := (blk_cell BK207.out 12).trans rfl
          have hcz46_13 : wr.cell? ⟨gb207,13,none⟩ = some (.int .i64 a0_13) := (blk_cell BK207.out 13).trans rfl
          have hfz46_0 := blk_frozen BK207.out 0
          have hfz46_1 := blk_frozen BK207.out 1
          have hfz46_2 := blk_frozen BK207.out 2
          have hfz46_3 := blk_frozen BK207.out 3
          have hfz46_4 := blk_frozen BK207.out 4
          have hfz46_5 := blk_frozen BK207.out 5
          have hfz46_6 := blk_frozen BK207.out 6
          have hfz46_7 := blk_frozen BK207.out 7
          have hfz46_8 := blk_frozen BK207.out 8
          have hfz46_9 := blk_frozen BK207.out 9
          have hfz46_10 := blk_frozen BK207.out 10
          have hfz46_11 := blk_frozen BK207.out 11
          have hfz46_12 := blk_frozen BK207.out 12
          have hfz46_13 := blk_frozen BK207.out 13
          go_wp2_with (first | ((with_reducible refine gate_callee (f:=46) rfl ?_); refine goesL_ (some 37) rfl rfl Tryd.func46 (by kernel_rfl) rfl #[.int .i64 a0_0,.int .i64 0,.int .i64 9] rfl mA ?_; (with_reducible refine (spec_l01In.calls a0_0 0 9 true _ A29.out).mono ?_); rintro e w' ⟨rfl,⟨nd,rfl⟩⟩; refine ⟨_,rfl,?_⟩) | (go_at_call 46; (with_reducible refine (spec_l01In.calls a0_1 0 4 true _ A31.out).mono ?_); rintro e w' ⟨rfl,⟨nd,rfl⟩⟩) | (go_at_call 46; (with_reducible refine (spec_l01In.calls a0_5 0 200000 true _ A33.out).mono ?_); rintro e w' ⟨rfl,⟨nd,rfl⟩⟩) | (go_at_call 46; (with_reducible refine (spec_l01In.calls a0_6 0 19 true _ A35.out).mono ?_); rintro e w' ⟨rfl,⟨nd,rfl⟩⟩) | (go_at_call 49; (with_reducible refine (spec_AggOK.calls a0_8 a0_9 a0_10 a0_11 a0_12 a0_13 false _ A37.out).mono ?_); rintro e w47 ⟨rfl,hb⟩; have n0_ := Aside0.mk (blk_below (g:=gb207) (o:=.cells #[.int .i64 a0_0,.int .i64 a0_1,.int .i64 a0_2,.int .i64 a0_3,.int .i64 a0_4,.int .i64 a0_5,.int .i64 a0_6,.slice A0_7 l0_7.length c0_7,.int .i64 a0_8,.int .i64 a0_9,.int .i64 a0_10,.int .i64 a0_11,.int .i64 a0_12,.int .i64 a0_13] 60 (0,0)) (kA BK207.out) hb); have n1_ := Aside0.mk (below_step bA hb); clear BK207; clear HB; have BK207 := n0_; have HB := n1_; clear n0_ n1_; (try clear hb); (try clear hb2); (try clear hk); (try clear hi)))
          go_meet
          case rel => exact ⟨_,(true),(by first | rfl | (simp; done) | (simp [*]; done)),H',⟨by have := HK1.out; first | omega | exact Nat.le_refl _⟩,⟨kA BK207.out⟩,⟨bA⟩⟩
        ·replace c36 := Bool.eq_false_iff.mpr c36
         subst c36
         rw [if_neg (show ¬ (false = true) by decide)] at H
         have H' := Aside0.mk H
         clear H
         have hcz48_0 : wr.cell? ⟨gb207,0,none⟩ = some (.int .i64 a0_0) := (blk_cell BK207.out 0).trans rfl
         have hcz48_1 : wr.cell? ⟨gb207,1,none⟩ = some (.int .i64 a0_1) := (blk_cell BK207.out 1).trans rfl
         have hcz48_2 : wr.cell? ⟨gb207,2,none⟩ = some (.int .i64 a0_2) := (blk_cell BK207.out 2).trans rfl
         have hcz48_3 : wr.cell? ⟨gb207,3,none⟩ = some (.int .i64 a0_3) := (blk_cell BK207.out 3).trans rfl
         have hcz48_4 : wr.cell? ⟨gb207,4,none⟩ = some (.int .i64 a0_4) := (blk_cell BK207.out 4).trans rfl
         have hcz48_5 : wr.cell? ⟨gb207,5,none⟩ = some (.int .i64 a0_5) := (blk_cell BK207.out 5).trans rfl
         have hcz48_6 : wr.cell? ⟨gb207,6,none⟩ = some (.int .i64 a0_6) := (blk_cell BK207.out 6).trans rfl
         have hcz48_7 : wr.cell? ⟨gb207,7,none⟩ = some (.slice A0_7 l0_7.length c0_7) := (blk_cell BK207.out 7).trans rfl
         have hcz48_8 : wr.cell? ⟨gb207,8,none⟩ = some (.int .i64 a0_8) := (blk_cell BK207.out 8).trans rfl
         have hcz48_9 : wr.cell? ⟨gb207,9,none⟩ = some (.int .i64 a0_9) := (blk_cell BK207.out 9).trans rfl
         have hcz48_10 : wr.cell? ⟨gb207,10,none⟩ = some (.int .i64 a0_10) := (blk_cell BK207.out 10).trans rfl
         have hcz48_11 : wr.cell? ⟨gb207,11,none⟩ = some (.int .i64 a0_11) := (blk_cell BK207.out 11).trans rfl
         have hcz48_12 : wr.cell? ⟨gb207,12,none⟩ = some (.int .i64 a0_12) := (blk_cell BK207.out 12).trans rfl
         have hcz48_13 : wr.cell? ⟨gb207,13,none⟩ = some (.int .i64 a0_13) := (blk_cell BK207.out 13).trans rfl
         have hfz48_0 := blk_frozen BK207.out 0
         have hfz48_1 := blk_frozen BK207.out 1
         have hfz48_2 := blk_frozen BK207.out 2
         have hfz48_3 := blk_frozen BK207.out 3
         have hfz48_4 := blk_frozen BK207.out 4
         have hfz48_5 := blk_frozen BK207.out 5
         have hfz48_6 := blk_frozen BK207.out 6
         have hfz48_7 := blk_frozen BK207.out 7
         have hfz48_8 := blk_frozen BK207.out 8
         have hfz48_9 := blk_frozen BK207.out 9
         have hfz48_10 := blk_frozen BK207.out 10
         have hfz48_11 := blk_frozen BK207.out 11
         have hfz48_12 := blk_frozen BK207.out 12
         have hfz48_13 := blk_frozen BK207.out 13
         go_wp2_with (first | ((with_reducible refine gate_callee (f:=46) rfl ?_); refine goesL_ (some 37) rfl rfl Tryd.func46 (by kernel_rfl) rfl #[.int .i64 a0_0,.int .i64 0,.int .i64 9] rfl mA ?_; (with_reducible refine (spec_l01In.calls a0_0 0 9 true _ A29.out).mono ?_); rintro e w' ⟨rfl,⟨nd,rfl⟩⟩; refine ⟨_,rfl,?_⟩) | (go_at_call 46; (with_reducible refine (spec_l01In.calls a0_1 0 4 true _ A31.out).mono ?_); rintro e w' ⟨rfl,⟨nd,rfl⟩⟩) | (go_at_call 46; (with_reducible refine (spec_l01In.calls a0_5 0 200000 true _ A33.out).mono ?_); rintro e w' ⟨rfl,⟨nd,rfl⟩⟩) | (go_at_call 46; (with_reducible refine (spec_l01In.calls a0_6 0 19 false _ A35.out).mono ?_); rintro e w' ⟨rfl,⟨nd,rfl⟩⟩))
         go_meet
         case rel => exact ⟨_,(true),(by first | rfl | (simp; done) | (simp [*]; done)),H',⟨by have := HK1.out; first | omega | exact Nat.le_refl _⟩,⟨kA BK207.out⟩,⟨bA⟩⟩
       ·replace c34 := Bool.eq_false_iff.mpr c34
        subst c34
        rw [if_neg (show ¬ (false = true) by decide)] at H
        have H' := Aside0.mk H
        clear H
        have hcz49_0 : wr.cell? ⟨gb207,0,none⟩ = some (.int .i64 a0_0) := (blk_cell BK207.out 0).trans rfl
        have hcz49_1 : wr.cell? ⟨gb207,1,none⟩ = some (.int .i64 a0_1) := (blk_cell BK207.out 1).trans rfl
        have hcz49_2 : wr.cell? ⟨gb207,2,none⟩ = some (.int .i64 a0_2) := (blk_cell BK207.out 2).trans rfl
        have hcz49_3 : wr.cell? ⟨gb207,3,none⟩ = some (.int .i64 a0_3) := (blk_cell BK207.out 3).trans rfl
        have hcz49_4 : wr.cell? ⟨gb207,4,none⟩ = some (.int .i64 a0_4) := (blk_cell BK207.out 4).trans rfl
        have hcz49_5 : wr.cell? ⟨gb207,5,none⟩ = some (.int .i64 a0_5) := (blk_cell BK207.out 5).trans rfl
        have hcz49_6 : wr.cell? ⟨gb207,6,none⟩ = some (.int .i64 a0_6) := (blk_cell BK207.out 6).trans rfl
        have hcz49_7 : wr.cell? ⟨gb207,7,none⟩ = some (.slice A0_7 l0_7.length c0_7) := (blk_cell BK207.out 7).trans rfl
        have hcz49_8 : wr.cell? ⟨gb207,8,none⟩ = some (.int .i64 a0_8) := (blk_cell BK207.out 8).trans rfl
        have hcz49_9 : wr.cell? ⟨gb207,9,none⟩ = some (.int .i64 a0_9) := (blk_cell BK207.out 9).trans rfl
        have hcz49_10 : wr.cell? ⟨gb207,10,none⟩ = some (.int .i64 a0_10) := (blk_cell BK207.out 10).trans rfl
        have hcz49_11 : wr.cell? ⟨gb207,11,none⟩ = some (.int .i64 a0_11) := (blk_cell BK207.out 11).trans rfl
        have hcz49_12 : wr.cell? ⟨gb207,12,none⟩ = some (.int .i64 a0_12) := (blk_cell BK207.out 12).trans rfl
        have hcz49_13 : wr.cell? ⟨gb207,13,none⟩ = some (.int .i64 a0_13) := (blk_cell BK207.out 13).trans rfl
        have hfz49_0 := blk_frozen BK207.out 0
        have hfz49_1 := blk_frozen BK207.out 1
        have hfz49_2 := blk_frozen BK207.out 2
        have hfz49_3 := blk_frozen BK207.out 3
        have hfz49_4 := blk_frozen BK207.out 4
        have hfz49_5 := blk_frozen BK207.out 5
        have hfz49_6 := blk_frozen BK207.out 6
        have hfz49_7 := blk_frozen BK207.out 7
        have hfz49_8 := blk_frozen BK207.out 8
        have hfz49_9 := blk_frozen BK207.out 9
        have hfz49_10 := blk_frozen BK207.out 10
        have hfz49_11 := blk_frozen BK207.out 11
        have hfz49_12 := blk_frozen BK207.out 12
        have hfz49_13 := blk_frozen BK207.out 13
        go_wp2_with (first | ((with_reducible refine gate_callee (f:=46) rfl ?_); refine goesL_ (some 37) rfl rfl Tryd.func46 (by kernel_rfl) rfl #[.int .i64 a0_0,.int .i64 0,.int .i64 9] rfl mA ?_; (with_reducible refine (spec_l01In.calls a0_0 0 9 true _ A29.out).mono ?_); rintro e w' ⟨rfl,⟨nd,rfl⟩⟩; refine ⟨_,rfl,?_⟩) | (go_at_call 46; (with_reducible refine (spec_l01In.calls a0_1 0 4 true _ A31.out).mono ?_); rintro e w' ⟨rfl,⟨nd,rfl⟩⟩) | (go_at_call 46; (with_reducible refine (spec_l01In.calls a0_5 0 200000 false _ A33.out).mono ?_); rintro e w' ⟨rfl,⟨nd,rfl⟩⟩))
        go_meet
        case rel => exact ⟨_,(true),(by first | rfl | (simp; done) | (simp [*]; done)),H',⟨by have := HK1.out; first | omega | exact Nat.le_refl _⟩,⟨kA BK207.out⟩,⟨bA⟩⟩
      ·replace c32 := Bool.eq_false_iff.mpr c32
       subst c32
       rw [if_neg (show ¬ (false = true) by decide)] at H
       have H' := Aside0.mk H
       clear H
       have hcz50_0 : wr.cell? ⟨gb207,0,none⟩ = some (.int .i64 a0_0) := (blk_cell BK207.out 0).trans rfl
       have hcz50_1 : wr.cell? ⟨gb207,1,none⟩ = some (.int .i64 a0_1) := (blk_cell BK207.out 1).trans rfl
       have hcz50_2 : wr.cell? ⟨gb207,2,none⟩ = some (.int .i64 a0_2) := (blk_cell BK207.out 2).trans rfl
       have hcz50_3 : wr.cell? ⟨gb207,3,none⟩ = some (.int .i64 a0_3) := (blk_cell BK207.out 3).trans rfl
       have hcz50_4 : wr.cell? ⟨gb207,4,none⟩ = some (.int .i64 a0_4) := (blk_cell BK207.out 4).trans rfl
       have hcz50_5 : wr.cell? ⟨gb207,5,none⟩ = some (.int .i64 a0_5) := (blk_cell BK207.out 5).trans rfl
       have hcz50_6 : wr.cell? ⟨gb207,6,none⟩ = some (.int .i64 a0_6) := (blk_cell BK207.out 6).trans rfl
       have hcz50_7 : wr.cell? ⟨gb207,7,none⟩ = some (.slice A0_7 l0_7.length c0_7) := (blk_cell BK207.out 7).trans rfl
       have hcz50_8 : wr.cell? ⟨gb207,8,none⟩ = some (.int .i64 a0_8) := (blk_cell BK207.out 8).trans rfl
       have hcz50_9 : wr.cell? ⟨gb207,9,none⟩ = some (.int .i64 a0_9) := (blk_cell BK207.out 9).trans rfl
       have hcz50_10 : wr.cell? ⟨gb207,10,none⟩ = some (.int .i64 a0_10) := (blk_cell BK207.out 10).trans rfl
       have hcz50_11 : wr.cell? ⟨gb207,11,none⟩ = some (.int .i64 a0_11) := (blk_cell BK207.out 11).trans rfl
       have hcz50_12 : wr.cell? ⟨gb207,12,none⟩ = some (.int .i64 a0_12) := (blk_cell BK207.out 12).trans rfl
       have hcz50_13 : wr.cell? ⟨gb207,13,none⟩ = some (.int .i64 a0_13) := (blk_cell BK207.out 13).trans rfl
       have hfz50_0 := blk_frozen BK207.out 0
       have hfz50_1 := blk_frozen BK207.out 1
       have hfz50_2 := blk_frozen BK207.out 2
       have hfz50_3 := blk_frozen BK207.out 3
       have hfz50_4 := blk_frozen BK207.out 4
       have hfz50_5 := blk_frozen BK207.out 5
       have hfz50_6 := blk_frozen BK207.out 6
       have hfz50_7 := blk_frozen BK207.out 7
       have hfz50_8 := blk_frozen BK207.out 8
       have hfz50_9 := blk_frozen BK207.out 9
       have hfz50_10 := blk_frozen BK207.out 10
       have hfz50_11 := blk_frozen BK207.out 11
       have hfz50_12 := blk_frozen BK207.out 12
       have hfz50_13 := blk_frozen BK207.out 13
       go_wp2_with (first | ((with_reducible refine gate_callee (f:=46) rfl ?_); refine goesL_ (some 37) rfl rfl Tryd.func46 (by kernel_rfl) rfl #[.int .i64 a0_0,.int .i64 0,.int .i64 9] rfl mA ?_; (with_reducible refine (spec_l01In.calls a0_0 0 9 true _ A29.out).mono ?_); rintro e w' ⟨rfl,⟨nd,rfl⟩⟩; refine ⟨_,rfl,?_⟩) | (go_at_call 46; (with_reducible refine (spec_l01In.calls a0_1 0 4 false _ A31.out).mono ?_); rintro e w' ⟨rfl,⟨nd,rfl⟩⟩))
       go_meet
       case rel => exact ⟨_,(true),(by first | rfl | (simp; done) | (simp [*]; done)),H',⟨by have := HK1.out; first | omega | exact Nat.le_refl _⟩,⟨kA BK207.out⟩,⟨bA⟩⟩
     ·replace c30 := Bool.eq_false_iff.mpr c30
      subst c30
      rw [if_neg (show ¬ (false = true) by decide)] at H
      have H' := Aside0.mk H
      clear H
      have hcz51_0 : wr.cell? ⟨gb207,0,none⟩ = some (.int .i64 a0_0) := (blk_cell BK207.out 0).trans rfl
      have hcz51_1 : wr.cell? ⟨gb207,1,none⟩ = some (.int .i64 a0_1) := (blk_cell BK207.out 1).trans rfl
      have hcz51_2 : wr.cell? ⟨gb207,2,none⟩ = some (.int .i64 a0_2) := (blk_cell BK207.out 2).trans rfl
      have hcz51_3 : wr.cell? ⟨gb207,3,none⟩ = some (.int .i64 a0_3) := (blk_cell BK207.out 3).trans rfl
      have hcz51_4 : wr.cell? ⟨gb207,4,none⟩ = some (.int .i64 a0_4) := (blk_cell BK207.out 4).trans rfl
      have hcz51_5 : wr.cell? ⟨gb207,5,none⟩ = some (.int .i64 a0_5) := (blk_cell BK207.out 5).trans rfl
      have hcz51_6 : wr.cell? ⟨gb207,6,none⟩ = some (.int .i64 a0_6) := (blk_cell BK207.out 6).trans rfl
      have hcz51_7 : wr.cell? ⟨gb207,7,none⟩ = some (.slice A0_7 l0_7.length c0_7) := (blk_cell BK207.out 7).trans rfl
      have hcz51_8 : wr.cell? ⟨gb207,8,none⟩ = some (.int .i64 a0_8) := (blk_cell BK207.out 8).trans rfl
      have hcz51_9 : wr.cell? ⟨gb207,9,none⟩ = some (.int .i64 a0_9) := (blk_cell BK207.out 9).trans rfl
      have hcz51_10 : wr.cell? ⟨gb207,10,none⟩ = some (.int .i64 a0_10) := (blk_cell BK207.out 10).trans rfl
      have hcz51_11 : wr.cell? ⟨gb207,11,none⟩ = some (.int .i64 a0_11) := (blk_cell BK207.out 11).trans rfl
      have hcz51_12 : wr.cell? ⟨gb207,12,none⟩ = some (.int .i64 a0_12) := (blk_cell BK207.out 12).trans rfl
      have hcz51_13 : wr.cell? ⟨gb207,13,none⟩ = some (.int .i64 a0_13) := (blk_cell BK207.out 13).trans rfl
      have hfz51_0 := blk_frozen BK207.out 0
      have hfz51_1 := blk_frozen BK207.out 1
      have hfz51_2 := blk_frozen BK207.out 2
      have hfz51_3 := blk_frozen BK207.out 3
      have hfz51_4 := blk_frozen BK207.out 4
      have hfz51_5 := blk_frozen BK207.out 5
      have hfz51_6 := blk_frozen BK207.out 6
      have hfz51_7 := blk_frozen BK207.out 7
      have hfz51_8 := blk_frozen BK207.out 8
      have hfz51_9 := blk_frozen BK207.out 9
      have hfz51_10 := blk_frozen BK207.out 10
      have hfz51_11 := blk_frozen BK207.out 11
      have hfz51_12 := blk_frozen BK207.out 12
      have hfz51_13 := blk_frozen BK207.out 13
      go_wp2_with (first | ((with_reducible refine gate_callee (f:=46) rfl ?_); refine goesL_ (some 37) rfl rfl Tryd.func46 (by kernel_rfl) rfl #[.int .i64 a0_0,.int .i64 0,.int .i64 9] rfl mA ?_; (with_reducible refine (spec_l01In.calls a0_0 0 9 false _ A29.out).mono ?_); rintro e w' ⟨rfl,⟨nd,rfl⟩⟩; refine ⟨_,rfl,?_⟩))
      go_meet
      case rel => exact ⟨_,(true),(by first | rfl | (simp; done) | (simp [*]; done)),H',⟨by have := HK1.out; first | omega | exact Nat.le_refl _⟩,⟨kA BK207.out⟩,⟨bA⟩⟩
    case rest =>
     clear HC27
     try clear c1
     try clear c2
     try clear p2
     try clear q2
     try clear hx2
     try clear c3
     try clear c3b0
     try clear c4
     try clear c4b0
     try clear c6
     try clear p6
     try clear c7
     try clear c7b0
     try clear c7b1
     try clear c10
     try clear c17
     try clear p20
     try clear q20
     try clear hx20
     try clear c23
     try clear c24
     try clear c30
     try clear c32
     try clear c34
     try clear c36
     try clear c38
     try clear c39
     try clear c39b0
     try clear c45
     try clear c46
     try clear hcz11_0
     try clear hcz11_1
     try clear hcz11_2
     try clear hcz11_3
     try clear hcz13_0
     try clear hcz13_1
     try clear hcz13_2
     try clear hcz13_3
     try clear hcz14_0
     try clear hcz14_1
     try clear hcz14_10
     try clear hcz14_11
     try clear hcz14_12
     try clear hcz14_13
     try clear hcz14_2
     try clear hcz14_3
     try clear hcz14_4
     try clear hcz14_5
     try clear hcz14_6
     try clear hcz14_7
     try clear hcz14_8
     try clear hcz14_9
     try clear hcz15_0
     try clear hcz15_1
     try clear hcz15_10
     try clear hcz15_11
     try clear hcz15_12
     try clear hcz15_13
     try clear hcz15_2
     try clear hcz15_3
     try clear hcz15_4
     try clear hcz15_5
     try clear hcz15_6
     try clear hcz15_7
     try clear hcz15_8
     try clear hcz15_9
     try clear hcz18_0
     try clear hcz18_1
     try clear hcz18_2
     try clear hcz18_3
     try clear hcz20_0
     try clear hcz20_1
     try clear hcz20_2
     try clear hcz20_3
     try clear hcz21_0
     try clear hcz21_1
     try clear hcz21_10
     try clear hcz21_11
     try clear hcz21_12
     try clear hcz21_13
     try clear hcz21_2
     try clear hcz21_3
     try clear hcz21_4
     try clear hcz21_5
     try clear hcz21_6
     try clear hcz21_7
     try clear hcz21_8
     try clear hcz21_9
     try clear hcz22_0
     try clear hcz22_1
     try clear hcz22_10
     try clear hcz22_11
     try clear hcz22_12
     try clear hcz22_13
     try clear hcz22_2
     try clear hcz22_3
     try clear hcz22_4
     try clear hcz22_5
     try clear hcz22_6
     try clear hcz22_7
     try clear hcz22_8
     try clear hcz22_9
     try clear hcz25_0
     try clear hcz25_1
     try clear hcz25_2
     try clear hcz25_3
     try clear hcz28_0
     try clear hcz28_1
     try clear hcz28_10
     try clear hcz28_11
     try clear hcz28_12
     try clear hcz28_13
     try clear hcz28_2
     try clear hcz28_3
     try clear hcz28_4
     try clear hcz28_5
     try clear hcz28_6
     try clear hcz28_7
     try clear hcz28_8
     try clear hcz28_9
     try clear hcz40_0
     try clear hcz40_1
     try clear hcz40_10
     try clear hcz40_11
     try clear hcz40_12
     try clear hcz40_13
     try clear hcz40_2
     try clear hcz40_3
     try clear hcz40_4
     try clear hcz40_5
     try clear hcz40_6
     try clear hcz40_7
     try clear hcz40_8
     try clear hcz40_9
     try clear hcz42_0
     try clear hcz42_1
     try clear hcz42_10
     try clear hcz42_11
     try clear hcz42_12
     try clear hcz42_13
     try clear hcz42_2
     try clear hcz42_3
     try clear hcz42_4
     try clear hcz42_5
     try clear hcz42_6
     try clear hcz42_7
     try clear hcz42_8
     try clear hcz42_9
     try clear hcz43_0
     try clear hcz43_1
     try clear hcz43_10
     try clear hcz43_11
     try clear hcz43_12
     try clear hcz43_13
     try clear hcz43_2
     try clear hcz43_3
     try clear hcz43_4
     try clear hcz43_5
     try clear hcz43_6
     try clear hcz43_7
     try clear hcz43_8
     try clear hcz43_9
     try clear hcz45_0
     try clear hcz45_1
     try clear hcz45_10
     try clear hcz45_11
     try clear hcz45_12
     try clear hcz45_13
     try clear hcz45_2
     try clear hcz45_3
     try clear hcz45_4
     try clear hcz45_5
     try clear hcz45_6
     try clear hcz45_7
     try clear hcz45_8
     try clear hcz45_9
     try clear hcz46_0
     try clear hcz46_1
     try clear hcz46_10
     try clear hcz46_11
     try clear hcz46_12
     try clear hcz46_13
     try clear hcz46_2
     try clear hcz46_3
     try clear hcz46_4
     try clear hcz46_5
     try clear hcz46_6
     try clear hcz46_7
     try clear hcz46_8
     try clear hcz46_9
     try clear hcz48_0
     try clear hcz48_1
     try clear hcz48_10
     try clear hcz48_11
     try clear hcz48_12
     try clear hcz48_13
     try clear hcz48_2
     try clear hcz48_3
     try clear hcz48_4
     try clear hcz48_5
     try clear hcz48_6
     try clear hcz48_7
     try clear hcz48_8
     try clear hcz48_9
     try clear hcz49_0
     try clear hcz49_1
     try clear hcz49_10
     try clear hcz49_11
     try clear hcz49_12
     try clear hcz49_13
     try clear hcz49_2
     try clear hcz49_3
     try clear hcz49_4
     try clear hcz49_5
     try clear hcz49_6
     try clear hcz49_7
     try clear hcz49_8
     try clear hcz49_9
     try clear hcz50_0
     try clear hcz50_1
     try clear hcz50_10
     try clear hcz50_11
     try clear hcz50_12
     try clear hcz50_13
     try clear hcz50_2
     try clear hcz50_3
     try clear hcz50_4
     try clear hcz50_5
     try clear hcz50_6
     try clear hcz50_7
     try clear hcz50_8
     try clear hcz50_9
     try clear hcz51_0
     try clear hcz51_1
     try clear hcz51_10
     try clear hcz51_11
     try clear hcz51_12
     try clear hcz51_13
     try clear hcz51_2
     try clear hcz51_3
     try clear hcz51_4
     try clear hcz51_5
     try clear hcz51_6
     try clear hcz51_7
     try clear hcz51_8
     try clear hcz51_9
     try clear hcz8_0
     try clear hcz8_1
     try clear hcz8_10
     try clear hcz8_11
     try clear hcz8_12
     try clear hcz8_13
     try clear hcz8_2
     try clear hcz8_3
     try clear hcz8_4
     try clear hcz8_5
     try clear hcz8_6
     try clear hcz8_7
     try clear hcz8_8
     try clear hcz8_9
     try clear hfz11_0
     try clear hfz11_1
     try clear hfz11_2
     try clear hfz11_3
     try clear hfz13_0
     try clear hfz13_1
     try clear hfz13_2
     try clear hfz13_3
     try clear hfz14_0
     try clear hfz14_1
     try clear hfz14_10
     try clear hfz14_11
     try clear hfz14_12
     try clear hfz14_13
     try clear hfz14_2
     try clear hfz14_3
     try clear hfz14_4
     try clear hfz14_5
     try clear hfz14_6
     try clear hfz14_7
     try clear hfz14_8
     try clear hfz14_9
     try clear hfz15_0
     try clear hfz15_1
     try clear hfz15_10
     try clear hfz15_11
     try clear hfz15_12
     try clear hfz15_13
     try clear hfz15_2
     try clear hfz15_3
     try clear hfz15_4
     try clear hfz15_5
     try clear hfz15_6
     try clear hfz15_7
     try clear hfz15_8
     try clear hfz15_9
     try clear hfz18_0
     try clear hfz18_1
     try clear hfz18_2
     try clear hfz18_3
     try clear hfz20_0
     try clear hfz20_1
     try clear hfz20_2
     try clear hfz20_3
     try clear hfz21_0
     try clear hfz21_1
     try clear hfz21_10
     try clear hfz21_11
     try clear hfz21_12
     try clear hfz21_13
     try clear hfz21_2
     try clear hfz21_3
     try clear hfz21_4
     try clear hfz21_5
     try clear hfz21_6
     try clear hfz21_7
     try clear hfz21_8
     try clear hfz21_9
     try clear hfz22_0
     try clear hfz22_1
     try clear hfz22_10
     try clear hfz22_11
     try clear hfz22_12
     try clear hfz22_13
     try clear hfz22_2
     try clear hfz22_3
     try clear hfz22_4
     try clear hfz22_5
     try clear hfz22_6
     try clear hfz22_7
     try clear hfz22_8
     try clear hfz22_9
     try clear hfz25_0
     try clear hfz25_1
     try clear hfz25_2
     try clear hfz25_3
     try clear hfz28_0
     try clear hfz28_1
     try clear hfz28_10
     try clear hfz28_11
     try clear hfz28_12
     try clear hfz28_13
     try clear hfz28_2
     try clear hfz28_3
     try clear hfz28_4
     try clear hfz28_5
     try clear hfz28_6
     try clear hfz28_7
     try clear hfz28_8
     try clear hfz28_9
     try clear hfz40_0
     try clear hfz40_1
     try clear hfz40_10
     try clear hfz40_11
     try clear hfz40_12
     try clear hfz40_13
     try clear hfz40_2
     try clear hfz40_3
     try clear hfz40_4
     try clear hfz40_5
     try clear hfz40_6
     try clear hfz40_7
     try clear hfz40_8
     try clear hfz40_9
     try clear hfz42_0
     try clear hfz42_1
     try clear hfz42_10
     try clear hfz42_11
     try clear hfz42_12
     try clear hfz42_13
     try clear hfz42_2
     try clear hfz42_3
     try clear hfz42_4
     try clear hfz42_5
     try clear hfz42_6
     try clear hfz42_7
     try clear hfz42_8
     try clear hfz42_9
     try clear hfz43_0
     try clear hfz43_1
     try clear hfz43_10
     try clear hfz43_11
     try clear hfz43_12
     try clear hfz43_13
     try clear hfz43_2
     try clear hfz43_3
     try clear hfz43_4
     try clear hfz43_5
     try clear hfz43_6
     try clear hfz43_7
     try clear hfz43_8
     try clear hfz43_9
     try clear hfz45_0
     try clear hfz45_1
     try clear hfz45_10
     try clear hfz45_11
     try clear hfz45_12
     try clear hfz45_13
     try clear hfz45_2
     try clear hfz45_3
     try clear hfz45_4
     try clear hfz45_5
     try clear hfz45_6
     try clear hfz45_7
     try clear hfz45_8
     try clear hfz45_9
     try clear hfz46_0
     try clear hfz46_1
     try clear hfz46_10
     try clear hfz46_11
     try clear hfz46_12
     try clear hfz46_13
     try clear hfz46_2
     try clear hfz46_3
     try clear hfz46_4
     try clear hfz46_5
     try clear hfz46_6
     try clear hfz46_7
     try clear hfz46_8
     try clear hfz46_9
     try clear hfz48_0
     try clear hfz48_1
     try clear hfz48_10
     try clear hfz48_11
     try clear hfz48_12
     try clear hfz48_13
     try clear hfz48_2
     try clear hfz48_3
     try clear hfz48_4
     try clear hfz48_5
     try clear hfz48_6
     try clear hfz48_7
     try clear hfz48_8
     try clear hfz48_9
     try clear hfz49_0
     try clear hfz49_1
     try clear hfz49_10
     try clear hfz49_11
     try clear hfz49_12
     try clear hfz49_13
     try clear hfz49_2
     try clear hfz49_3
     try clear hfz49_4
     try clear hfz49_5
     try clear hfz49_6
     try clear hfz49_7
     try clear hfz49_8
     try clear hfz49_9
     try clear hfz50_0
     try clear hfz50_1
     try clear hfz50_10
     try clear hfz50_11
     try clear hfz50_12
     try clear hfz50_13
     try clear hfz50_2
     try clear hfz50_3
     try clear hfz50_4
     try clear hfz50_5
     try clear hfz50_6
     try clear hfz50_7
     try clear hfz50_8
     try clear hfz50_9
     try clear hfz51_0
     try clear hfz51_1
     try clear hfz51_10
     try clear hfz51_11
     try clear hfz51_12
     try clear hfz51_13
     try clear hfz51_2
     try clear hfz51_3
     try clear hfz51_4
     try clear hfz51_5
     try clear hfz51_6
     try clear hfz51_7
     try clear hfz51_8
     try clear hfz51_9
     try clear hfz8_0
     try clear hfz8_1
     try clear hfz8_10
     try clear hfz8_11
     try clear hfz8_12
     try clear hfz8_13
     try clear hfz8_2
     try clear hfz8_3
     try clear hfz8_4
     try clear hfz8_5
     try clear hfz8_6
     try clear hfz8_7
     try clear hfz8_8
     try clear hfz8_9
     try clear hx208_0
     try clear hx208_1
     try clear hx208_2
     try clear hx208_3
     try clear p2
     try clear p208
     try clear q208
     obtain ⟨kq,x74_26,rfl,HA,HJ26,BK207,HB⟩ := hcut
     cases kq with
     | zero => exact absurd HA.out (by simp [spec_ReaderOK.j1])
     | succ kj26 =>
      have H := HA.out
      clear HA
      simp only [spec_ReaderOK.j1] at H
      by_cases c52 : x74_26 = true
      ·subst c52
       rw [if_pos rfl] at H
       obtain rfl := Option.some.inj H
       go_wp2
       go_ret
       exact ⟨by first | rfl | (simp only [i64_w,i32_w] <;> rfl) | (simp [errW_none,errW_some] <;> rfl) | (simp [*,errW_none,errW_some] <;> rfl),bA⟩
      ·replace c52 := Bool.eq_false_iff.mpr c52
       subst c52
       rw [if_neg (show ¬ (false = true) by decide)] at H
       replace H := Option.bind_eq_some_iff.mp H
       obtain ⟨t216,A530,H⟩ := H
       try dsimp only at H
       have A53 := Aside0.mk A530
       clear A530
       by_cases c54 : t216 = true
       ·subst c54
        rw [if_pos rfl] at H
        replace H := Option.bind_eq_some_iff.mp H
        obtain ⟨t217,A550,H⟩ := H
        try dsimp only at H
        have A55 := Aside0.mk A550
        clear A550
        obtain rfl := Option.some.inj H
        have hcz56_0 : wc.cell? ⟨gb207,0,none⟩ = some (.int .i64 a0_0) := (blk_cell BK207.out 0).trans rfl
        have hcz56_1 : wc.cell? ⟨gb207,1,none⟩ = some (.int .i64 a0_1) := (blk_cell BK207.out 1).trans rfl
        have hcz56_2 : wc.cell? ⟨gb207,2,none⟩ = some (.int .i64 a0_2) := (blk_cell BK207.out 2).trans rfl
        have hcz56_3 : wc.cell? ⟨gb207,3,none⟩ = some (.int .i64 a0_3) := (blk_cell BK207.out 3).trans rfl
        have hcz56_4 : wc.cell? ⟨gb207,4,none⟩ = some (.int .i64 a0_4) := (blk_cell BK207.out 4).trans rfl
        have hcz56_5 : wc.cell? ⟨gb207,5,none⟩ = some (.int .i64 a0_5) := (blk_cell BK207.out 5).trans rfl
        have hcz56_6 : wc.cell? ⟨gb207,6,none⟩ = some (.int .i64 a0_6) := (blk_cell BK207.out 6).trans rfl
        have hcz56_7 : wc.cell? ⟨gb207,7,none⟩ = some (.slice A0_7 l0_7.length c0_7) := (blk_cell BK207.out 7).trans rfl
        have hcz56_8 : wc.cell? ⟨gb207,8,none⟩ = some (.int .i64 a0_8) := (blk_cell BK207.out 8).trans rfl
        have hcz56_9 : wc.cell? ⟨gb207,9,none⟩ = some (.int .i64 a0_9) := (blk_cell BK207.out 9).trans rfl
        have hcz56_10 : wc.cell? ⟨gb207,10,none⟩ = some (.int .i64 a0_10) := (blk_cell BK207.out 10).trans rfl
        have hcz56_11 : wc.cell? ⟨gb207,11,none⟩ = some (.int .i64 a0_11) := (blk_cell BK207.out 11).trans rfl
        have hcz56_12 : wc.cell? ⟨gb207,12,none⟩ = some (.int .i64 a0_12) := (blk_cell BK207.out 12).trans rfl
        have hcz56_13 : wc.cell? ⟨gb207,13,none⟩ = some (.int .i64 a0_13) := (blk_cell BK207.out 13).trans rfl
        have hfz56_0 := blk_frozen BK207.out 0
        have hfz56_1 := blk_frozen BK207.out 1
        have hfz56_2 := blk_frozen BK207.out 2
        have hfz56_3 := blk_frozen BK207.out 3
        have hfz56_4 := blk_frozen BK207.out 4
        have hfz56_5 := blk_frozen BK207.out 5
        have hfz56_6 := blk_frozen BK207.out 6
        have hfz56_7 := blk_frozen BK207.out 7
        have hfz56_8 := blk_frozen BK207.out 8
        have hfz56_9 := blk_frozen BK207.out 9
        have hfz56_10 := blk_frozen BK207.out 10
        have hfz56_11 := blk_frozen BK207.out 11
        have hfz56_12 := blk_frozen BK207.out 12
        have hfz56_13 := blk_frozen BK207.out 13
        go_wp2_with (first | ((with_reducible refine gate_callee (f:=62) rfl ?_); refine goesL_ (some 77) rfl rfl Tryd.func62 (by kernel_rfl) rfl #[.int .i64 a0_2] rfl mA ?_; (with_reducible refine (spec_l04Tier.calls a0_2 true _ A53.out).mono ?_); rintro e w' ⟨rfl,⟨nd,rfl⟩⟩; refine ⟨_,rfl,?_⟩) | (go_at_call 63; (with_reducible refine (spec_l04Range.calls a0_3 a0_4 t217 _ A55.out).mono ?_); rintro e w' ⟨rfl,⟨nd,rfl⟩⟩))
        go_ret
        exact ⟨by first | rfl | (simp only [i64_w,i32_w] <;> rfl) | (simp [errW_none,errW_some] <;> rfl) | (simp [*,errW_none,errW_some] <;> rfl),bA⟩
       ·replace c54 := Bool.eq_false_iff.mpr c54
        subst c54
        rw [if_neg (show ¬ (false = true) by decide)] at H
        obtain rfl := Option.some.inj H
        have hcz57_0 : wc.cell? ⟨gb207,0,none⟩ = some (.int .i64 a0_0) := (blk_cell BK207.out 0).trans rfl
        have hcz57_1 : wc.cell? ⟨gb207,1,none⟩ = some (.int .i64 a0_1) := (blk_cell BK207.out 1).trans rfl
        have hcz57_2 : wc.cell? ⟨gb207,2,none⟩ = some (.int .i64 a0_2) := (blk_cell BK207.out 2).trans rfl
        have hcz57_3 : wc.cell? ⟨gb207,3,none⟩ = some (.int .i64 a0_3) := (blk_cell BK207.out 3).trans rfl
        have hcz57_4 : wc.cell? ⟨gb207,4,none⟩ = some (.int .i64 a0_4) := (blk_cell BK207.out 4).trans rfl
        have hcz57_5 : wc.cell? ⟨gb207,5,none⟩ = some (.int .i64 a0_5) := (blk_cell BK207.out 5).trans rfl
        have hcz57_6 : wc.cell? ⟨gb207,6,none⟩ = some (.int .i64 a0_6) := (blk_cell BK207.out 6).trans rfl
        have hcz57_7 : wc.cell? ⟨gb207,7,none⟩ = some (.slice A0_7 l0_7.length c0_7) := (blk_cell BK207.out 7).trans rfl
        have hcz57_8 : wc.cell? ⟨gb207,8,none⟩ = some (.int .i64 a0_8) := (blk_cell BK207.out 8).trans rfl
        have hcz57_9 : wc.cell? ⟨gb207,9,none⟩ = some (.int .i64 a0_9) := (blk_cell BK207.out 9).trans rfl
        have hcz57_10 : wc.cell? ⟨gb207,10,none⟩ = some (.int .i64 a0_10) := (blk_cell BK207.out 10).trans rfl
        have hcz57_11 : wc.cell? ⟨gb207,11,none⟩ = some (.int .i64 a0_11) := (blk_cell BK207.out 11).trans rfl
        have hcz57_12 : wc.cell? ⟨gb207,12,none⟩ = some (.int .i64 a0_12) := (blk_cell BK207.out 12).trans rfl
        have hcz57_13 : wc.cell? ⟨gb207,13,none⟩ = some (.int .i64 a0_13) := (blk_cell BK207.out 13).trans rfl
        have hfz57_0 := blk_frozen BK207.out 0
        have hfz57_1 := blk_frozen BK207.out 1
        have hfz57_2 := blk_frozen BK207.out 2
        have hfz57_3 := blk_frozen BK207.out 3
        have hfz57_4 := blk_frozen BK207.out 4
        have hfz57_5 := blk_frozen BK207.out 5
        have hfz57_6 := blk_frozen BK207.out 6
        have hfz57_7 := blk_frozen BK207.out 7
        have hfz57_8 := blk_frozen BK207.out 8
        have hfz57_9 := blk_frozen BK207.out 9
        have hfz57_10 := blk_frozen BK207.out 10
        have hfz57_11 := blk_frozen BK207.out 11
        have hfz57_12 := blk_frozen BK207.out 12
        have hfz57_13 := blk_frozen BK207.out 13
        go_wp2_with (first | ((with_reducible refine gate_callee (f:=62) rfl ?_); refine goesL_ (some 77) rfl rfl Tryd.func62 (by kernel_rfl) rfl #[.int .i64 a0_2] rfl mA ?_; (with_reducible refine (spec_l04Tier.calls a0_2 false _ A53.out).mono ?_); rintro e w' ⟨rfl,⟨nd,rfl⟩⟩; refine ⟨_,rfl,?_⟩))
        go_ret
        exact ⟨by first | rfl | (simp only [i64_w,i32_w] <;> rfl) | (simp [errW_none,errW_some] <;> rfl) | (simp [*,errW_none,errW_some] <;> rfl),bA⟩

end Go.Proofs.YtleifhnoaaphmaaDoor.XFnExactAskReader
