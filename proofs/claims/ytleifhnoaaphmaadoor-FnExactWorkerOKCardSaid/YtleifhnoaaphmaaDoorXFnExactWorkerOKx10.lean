-- Printed by this session's own program wip/tools/xprint.py, which widens the kit's print. Not trusted: Lean checks it.
import Derived.Test.YtleifhnoaaphmaaDoorXFnExactWorkerOKx0
import Derived.Test.YtleifhnoaaphmaaDoorXFnExactWorkerOKx7
import Derived.Test.YtleifhnoaaphmaaDoorXFnExactWorkerOKx8
import Derived.Test.YtleifhnoaaphmaaDoorXFnExactWorkerOKx9
namespace Go.Proofs.YtleifhnoaaphmaaDoor.XFnExactWorkerOK
open List (setIfInBounds_toArray set_cons_zero set_cons_succ)
open Go.RowKit Go.Proofs.YtleifhnoaaphmaaDoorW.PrintWords Go.Proofs.YtleifhnoaaphmaaDoorW.PrintLast Go.Proofs.YtleifhnoaaphmaaDoorW.PrintMore
attribute [local go_sem] max2_int min2_int max_two min_two max_three min_three max_four min_four   -- for this text's walks alone
set_option linter.unusedVariables false
set_option linter.unusedSimpArgs false

/-! ### impl_WorkerOK: function 20 -/
mutual
def impl_WorkerOK.j0 : Nat → Bool → Int → Int → Int → Int → Int → Int → Int → Int → ByteArray → List (S84) → Int → Int → Int → Int → Int → Int → Option (Bool)
 | 0,_,_,_,_,_,_,_,_,_,_,_,_,_,_,_,_,_ => none
 | k + 1,x28,x289000,x289001,x289002,x289003,x289004,x289005,x289006,x289007,x289008,x289009,x289010,x289011,x289012,x289013,x289014,x289015 => if x28 = true then (some false) else ((impl_within.f x289001 4 6).bind fun t292 => (if t292 = true then ((impl_RecordOK.f k x289003 x289004 x289005 x289006 x289007 x289008).bind fun t293 => (if t293 = true then (if x289004 = x289002 then (if x289003 = 3 then (impl_WorkerOK.j1 k (!true) x289000 x289001 x289002 x289003 x289004 x289005 x289006 x289007 x289008 x289009 x289010 x289011 x289012 x289013 x289014 x289015) else (if x289001 = 6 then (impl_WorkerOK.j1 k (!(x289003 == 4)) x289000 x289001 x289002 x289003 x289004 x289005 x289006 x289007 x289008 x289009 x289010 x289011 x289012 x289013 x289014 x289015) else (impl_WorkerOK.j1 k (!false) x289000 x289001 x289002 x289003 x289004 x289005 x289006 x289007 x289008 x289009 x289010 x289011 x289012 x289013 x289014 x289015))) else (impl_WorkerOK.j1 k (!false) x289000 x289001 x289002 x289003 x289004 x289005 x289006 x289007 x289008 x289009 x289010 x289011 x289012 x289013 x289014 x289015)) else (impl_WorkerOK.j1 k (!false) x289000 x289001 x289002 x289003 x289004 x289005 x289006 x289007 x289008 x289009 x289010 x289011 x289012 x289013 x289014 x289015))) else (impl_WorkerOK.j1 k false x289000 x289001 x289002 x289003 x289004 x289005 x289006 x289007 x289008 x289009 x289010 x289011 x289012 x289013 x289014 x289015)))
def impl_WorkerOK.j1 : Nat → Bool → Int → Int → Int → Int → Int → Int → Int → Int → ByteArray → List (S84) → Int → Int → Int → Int → Int → Int → Option (Bool)
 | 0,_,_,_,_,_,_,_,_,_,_,_,_,_,_,_,_,_ => none
 | k + 1,x62,x289000,x289001,x289002,x289003,x289004,x289005,x289006,x289007,x289008,x289009,x289010,x289011,x289012,x289013,x289014,x289015 => if x62 = true then (some false) else (if (x289009.length : Int) ≤ 300 then ((impl_Entry.f k x289009).bind fun t294 => (if t294 = true then ((impl_isGot.f x289010 x289011 x289012 x289013 x289014 x289015).bind fun t295 => (some t295)) else (some false))) else (some false))
end
def impl_WorkerOK.f (k : Nat) (a0_0 : Int) (a0_1 : Int) (a0_2 : Int) (a0_3 : Int) (a0_4 : Int) (a0_5 : Int) (a0_6 : Int) (a0_7 : Int) (a0_8 : ByteArray) (l0_9 : List (S84)) (a0_10 : Int) (a0_11 : Int) (a0_12 : Int) (a0_13 : Int) (a0_14 : Int) (a0_15 : Int) : Option (Bool) := (impl_isId.f a0_0).bind fun t289 => (if t289 = true then ((impl_within.f a0_1 0 7).bind fun t290 => (if t290 = true then ((impl_within.f a0_2 0 999999).bind fun t291 => (if t291 = true then (if a0_1 ≥ 2 then (impl_WorkerOK.j0 k (a0_2 == 0) a0_0 a0_1 a0_2 a0_3 a0_4 a0_5 a0_6 a0_7 a0_8 l0_9 a0_10 a0_11 a0_12 a0_13 a0_14 a0_15) else (impl_WorkerOK.j0 k false a0_0 a0_1 a0_2 a0_3 a0_4 a0_5 a0_6 a0_7 a0_8 l0_9 a0_10 a0_11 a0_12 a0_13 a0_14 a0_15)) else (impl_WorkerOK.j0 k true a0_0 a0_1 a0_2 a0_3 a0_4 a0_5 a0_6 a0_7 a0_8 l0_9 a0_10 a0_11 a0_12 a0_13 a0_14 a0_15))) else (impl_WorkerOK.j0 k true a0_0 a0_1 a0_2 a0_3 a0_4 a0_5 a0_6 a0_7 a0_8 l0_9 a0_10 a0_11 a0_12 a0_13 a0_14 a0_15))) else (impl_WorkerOK.j0 k true a0_0 a0_1 a0_2 a0_3 a0_4 a0_5 a0_6 a0_7 a0_8 l0_9 a0_10 a0_11 a0_12 a0_13 a0_14 a0_15))
theorem impl_WorkerOK.mono_l : ∀ k,(∀ y0 y1 y2 y3 y4 y5 y6 y7 y8 y9 y10 y11 y12 y13 y14 y15 y16,LeO (impl_WorkerOK.j0 k y0 y1 y2 y3 y4 y5 y6 y7 y8 y9 y10 y11 y12 y13 y14 y15 y16) (impl_WorkerOK.j0 (k + 1) y0 y1 y2 y3 y4 y5 y6 y7 y8 y9 y10 y11 y12 y13 y14 y15 y16)) ∧ (∀ y0 y1 y2 y3 y4 y5 y6 y7 y8 y9 y10 y11 y12 y13 y14 y15 y16,LeO (impl_WorkerOK.j1 k y0 y1 y2 y3 y4 y5 y6 y7 y8 y9 y10 y11 y12 y13 y14 y15 y16) (impl_WorkerOK.j1 (k + 1) y0 y1 y2 y3 y4 y5 y6 y7 y8 y9 y10 y11 y12 y13 y14 y15 y16))
 | 0 => ⟨fun _ _ _ _ _ _ _ _ _ _ _ _ _ _ _ _ _ r h => by simp [impl_WorkerOK.j0] at h,fun _ _ _ _ _ _ _ _ _ _ _ _ _ _ _ _ _ r h => by simp [impl_WorkerOK.j1] at h⟩
 | k + 1 => by
  obtain ⟨ih0,ih1⟩ := impl_WorkerOK.mono_l k
  refine ⟨?_,?_⟩
  ·intro y0 y1 y2 y3 y4 y5 y6 y7 y8 y9 y10 y11 y12 y13 y14 y15 y16
   unfold impl_WorkerOK.j0
   repeat' first
   | (with_reducible exact ih0 _ _ _ _ _ _ _ _ _ _ _ _ _ _ _ _ _)
   | (with_reducible exact ih1 _ _ _ _ _ _ _ _ _ _ _ _ _ _ _ _ _)
   | (with_reducible exact impl_Entry.mono _ _)
   | (with_reducible exact impl_RecordOK.mono _ _ _ _ _ _ _)
   | (with_reducible exact LeO.refl _)
   | (with_reducible exact LeO.none _)
   | (with_reducible refine LeO.ite ?_ ?_)
   | (with_reducible refine LeO.bind ?_ (fun _ => ?_))
   | exact ih0 _ _ _ _ _ _ _ _ _ _ _ _ _ _ _ _ _
   | exact ih1 _ _ _ _ _ _ _ _ _ _ _ _ _ _ _ _ _
   | exact impl_Entry.mono _ _
   | exact impl_RecordOK.mono _ _ _ _ _ _ _
   | exact LeO.none _
   | refine LeO.ite ?_ ?_
   | refine LeO.bind ?_ (fun _ => ?_)
  ·intro y0 y1 y2 y3 y4 y5 y6 y7 y8 y9 y10 y11 y12 y13 y14 y15 y16
   unfold impl_WorkerOK.j1
   repeat' first
   | (with_reducible exact ih0 _ _ _ _ _ _ _ _ _ _ _ _ _ _ _ _ _)
   | (with_reducible exact ih1 _ _ _ _ _ _ _ _ _ _ _ _ _ _ _ _ _)
   | (with_reducible exact impl_Entry.mono _ _)
   | (with_reducible exact impl_RecordOK.mono _ _ _ _ _ _ _)
   | (with_reducible exact LeO.refl _)
   | (with_reducible exact LeO.none _)
   | (with_reducible refine LeO.ite ?_ ?_)
   | (with_reducible refine LeO.bind ?_ (fun _ => ?_))
   | exact ih0 _ _ _ _ _ _ _ _ _ _ _ _ _ _ _ _ _
   | exact ih1 _ _ _ _ _ _ _ _ _ _ _ _ _ _ _ _ _
   | exact impl_Entry.mono _ _
   | exact impl_RecordOK.mono _ _ _ _ _ _ _
   | exact LeO.none _
   | refine LeO.ite ?_ ?_
   | refine LeO.bind ?_ (fun _ => ?_)
theorem impl_WorkerOK.mono : ∀ a0 a1 a2 a3 a4 a5 a6 a7 a8 a9 a10 a11 a12 a13 a14 a15 k,LeO (impl_WorkerOK.f k a0 a1 a2 a3 a4 a5 a6 a7 a8 a9 a10 a11 a12 a13 a14 a15) (impl_WorkerOK.f (k + 1) a0 a1 a2 a3 a4 a5 a6 a7 a8 a9 a10 a11 a12 a13 a14 a15) := by
 intro a0 a1 a2 a3 a4 a5 a6 a7 a8 a9 a10 a11 a12 a13 a14 a15 k
 obtain ⟨ih0,ih1⟩ := impl_WorkerOK.mono_l k
 unfold impl_WorkerOK.f
 repeat' first
   | (with_reducible exact ih0 _ _ _ _ _ _ _ _ _ _ _ _ _ _ _ _ _)
   | (with_reducible exact ih1 _ _ _ _ _ _ _ _ _ _ _ _ _ _ _ _ _)
   | (with_reducible exact impl_Entry.mono _ _)
   | (with_reducible exact impl_RecordOK.mono _ _ _ _ _ _ _)
   | (with_reducible exact LeO.refl _)
   | (with_reducible exact LeO.none _)
   | (with_reducible refine LeO.ite ?_ ?_)
   | (with_reducible refine LeO.bind ?_ (fun _ => ?_))
   | exact ih0 _ _ _ _ _ _ _ _ _ _ _ _ _ _ _ _ _
   | exact ih1 _ _ _ _ _ _ _ _ _ _ _ _ _ _ _ _ _
   | exact impl_Entry.mono _ _
   | exact impl_RecordOK.mono _ _ _ _ _ _ _
   | exact LeO.none _
   | refine LeO.ite ?_ ?_
   | refine LeO.bind ?_ (fun _ => ?_)
set_option maxHeartbeats 8000000 in
set_option maxRecDepth 100000 in
theorem impl_WorkerOK.calls (k : Nat) (a0_0 : Int) (a0_1 : Int) (a0_2 : Int) (a0_3 : Int) (a0_4 : Int) (a0_5 : Int) (a0_6 : Int) (a0_7 : Int) (a0_8 : ByteArray) (A0_9 : Option Addr) (c0_9 : Nat) (l0_9 : List (S84)) (a0_10 : Int) (a0_11 : Int) (a0_12 : Int) (a0_13 : Int) (a0_14 : Int) (a0_15 : Int) (r : Bool) (w : World) (hV : Vars w) (hr0_9 : Kd.C k84 w A0_9 l0_9.length l0_9) (hc0_9 : l0_9.length ≤ c0_9) (h : impl_WorkerOK.f k a0_0 a0_1 a0_2 a0_3 a0_4 a0_5 a0_6 a0_7 a0_8 l0_9 a0_10 a0_11 a0_12 a0_13 a0_14 a0_15 = some r) :
  Calls Tryd.prog 20 #[.agg #[.int .i64 a0_0,.int .i64 a0_1,.int .i64 a0_2,.int .i64 a0_3,.int .i64 a0_4,.int .i64 a0_5,.int .i64 a0_6,.int .i64 a0_7,.string a0_8,.slice A0_9 l0_9.length c0_9,.int .i64 a0_10,.int .i64 a0_11,.int .i64 a0_12,.int .i64 a0_13,.int .i64 a0_14,.int .i64 a0_15]] w fun e w' => e = .returned (.bool r) ∧ Below w.heap.size w w' := by
 have hu51 := Tryd.underlying51
 have hu47 := Tryd.underlying47
 have hu49 := Tryd.underlying49
 have HR0_9 := Aside0.mk hr0_9
 have HC0_9 := Aside0.mk hc0_9
 clear hr0_9 hc0_9
 have HV := Aside0.mk hV
 clear hV
 have HB := Aside0.mk (Below.refl w.heap.size w)
 have H : ((impl_isId.f a0_0).bind fun t289 => (if t289 = true then ((impl_within.f a0_1 0 7).bind fun t290 => (if t290 = true then ((impl_within.f a0_2 0 999999).bind fun t291 => (if t291 = true then (if a0_1 ≥ 2 then (impl_WorkerOK.j0 k (a0_2 == 0) a0_0 a0_1 a0_2 a0_3 a0_4 a0_5 a0_6 a0_7 a0_8 l0_9 a0_10 a0_11 a0_12 a0_13 a0_14 a0_15) else (impl_WorkerOK.j0 k false a0_0 a0_1 a0_2 a0_3 a0_4 a0_5 a0_6 a0_7 a0_8 l0_9 a0_10 a0_11 a0_12 a0_13 a0_14 a0_15)) else (impl_WorkerOK.j0 k true a0_0 a0_1 a0_2 a0_3 a0_4 a0_5 a0_6 a0_7 a0_8 l0_9 a0_10 a0_11 a0_12 a0_13 a0_14 a0_15))) else (impl_WorkerOK.j0 k true a0_0 a0_1 a0_2 a0_3 a0_4 a0_5 a0_6 a0_7 a0_8 l0_9 a0_10 a0_11 a0_12 a0_13 a0_14 a0_15))) else (impl_WorkerOK.j0 k true a0_0 a0_1 a0_2 a0_3 a0_4 a0_5 a0_6 a0_7 a0_8 l0_9 a0_10 a0_11 a0_12 a0_13 a0_14 a0_15))) = some r := h
 clear h
 have HC2 := Aside0.mk H
 clear H
 go_enter Tryd.func20,Tryd.ntmps20
 go_upto_region 1 with (first | ((with_reducible refine gate_dst (N:=1) rfl ?_); refine box_event ?hg (N:=1) ?hd (cs := #[.int .i64 a0_0,.int .i64 a0_1,.int .i64 a0_2,.int .i64 a0_3,.int .i64 a0_4,.int .i64 a0_5,.int .i64 a0_6,.int .i64 a0_7,.string a0_8,.slice A0_9 l0_9.length c0_9,.int .i64 a0_10,.int .i64 a0_11,.int .i64 a0_12,.int .i64 a0_13,.int .i64 a0_14,.int .i64 a0_15]) (t:=51) ?hr ?_; (case hd => rfl); (case hg => rfl); (case hr => first | (go_simp; done) | (go_simp; rfl)); intro gb288 hg w3 hbox hb; have n0_ := Aside0.mk (below_step bA hb); have n1_ := Aside0.mk (hbox); have n2_ := Aside0.mk ((by rw [hg]; exact (below_size bA) : w.heap.size ≤ gb288)); have n3_ := Aside0.mk ((by rw [hg]; exact (below_size bA) : w.heap.size ≤ gb288)); clear HB; have HB := n0_; have BK288 := n1_; have GW288 := n2_; have GE288 := n3_; clear n0_ n1_ n2_ n3_; clear hb hbox hg))
 (try simp only [Act.put,setIfInBounds_toArray,set_cons_zero,set_cons_succ])
 go_cut [28] (fun v28 wc => ∃ (kq : Nat) (x28_1 : Bool),v28 = .bool x28_1 ∧ Aside0 (impl_WorkerOK.j0 kq x28_1 a0_0 a0_1 a0_2 a0_3 a0_4 a0_5 a0_6 a0_7 a0_8 l0_9 a0_10 a0_11 a0_12 a0_13 a0_14 a0_15 = some r) ∧ Aside0 (kq ≤ k) ∧ Aside0 (wc.heap[gb288]? = some (.cells #[.int .i64 a0_0,.int .i64 a0_1,.int .i64 a0_2,.int .i64 a0_3,.int .i64 a0_4,.int .i64 a0_5,.int .i64 a0_6,.int .i64 a0_7,.string a0_8,(.slice A0_9 l0_9.length c0_9),.int .i64 a0_10,.int .i64 a0_11,.int .i64 a0_12,.int .i64 a0_13,.int .i64 a0_14,.int .i64 a0_15] 51 (0,0))) ∧ Aside0 (Below w.heap.size w wc))
 case first =>
  have H := HC2.out
  clear HC2
  replace H := Option.bind_eq_some_iff.mp H
  obtain ⟨t289,A40,H⟩ := H
  try dsimp only at H
  have A4 := Aside0.mk A40
  clear A40
  by_cases c5 : t289 = true
  ·subst c5
   rw [if_pos rfl] at H
   replace H := Option.bind_eq_some_iff.mp H
   obtain ⟨t290,A60,H⟩ := H
   try dsimp only at H
   have A6 := Aside0.mk A60
   clear A60
   by_cases c7 : t290 = true
   ·subst c7
    rw [if_pos rfl] at H
    replace H := Option.bind_eq_some_iff.mp H
    obtain ⟨t291,A80,H⟩ := H
    try dsimp only at H
    have A8 := Aside0.mk A80
    clear A80
    by_cases c9 : t291 = true
    ·subst c9
     rw [if_pos rfl] at H
     by_cases c10 : a0_1 ≥ 2
     ·rw [if_pos c10] at H
      have c10b0 : decide (2 ≤ a0_1) = true := decide_eq_true c10
      clear c10
      (first | rw [c10b0] | (simp only [i64_w,i32_w]; rw [c10b0]) | skip)
      have H' := Aside0.mk H
      clear H
      have hcz11_0 : w3.cell? ⟨gb288,0,none⟩ = some (.int .i64 a0_0) := (blk_cell BK288.out 0).trans rfl
      have hcz11_1 : w3.cell? ⟨gb288,1,none⟩ = some (.int .i64 a0_1) := (blk_cell BK288.out 1).trans rfl
      have hcz11_2 : w3.cell? ⟨gb288,2,none⟩ = some (.int .i64 a0_2) := (blk_cell BK288.out 2).trans rfl
      have hcz11_3 : w3.cell? ⟨gb288,3,none⟩ = some (.int .i64 a0_3) := (blk_cell BK288.out 3).trans rfl
      have hcz11_4 : w3.cell? ⟨gb288,4,none⟩ = some (.int .i64 a0_4) := (blk_cell BK288.out 4).trans rfl
      have hcz11_5 : w3.cell? ⟨gb288,5,none⟩ = some (.int .i64 a0_5) := (blk_cell BK288.out 5).trans rfl
      have hcz11_6 : w3.cell? ⟨gb288,6,none⟩ = some (.int .i64 a0_6) := (blk_cell BK288.out 6).trans rfl
      have hcz11_7 : w3.cell? ⟨gb288,7,none⟩ = some (.int .i64 a0_7) := (blk_cell BK288.out 7).trans rfl
      have hcz11_8 : w3.cell? ⟨gb288,8,none⟩ = some (.string a0_8) := (blk_cell BK288.out 8).trans rfl
      have hcz11_9 : w3.cell? ⟨gb288,9,none⟩ = some (.slice A0_9 l0_9.length c0_9) := (blk_cell BK288.out 9).trans rfl
      have hcz11_10 : w3.cell? ⟨gb288,10,none⟩ = some (.int .i64 a0_10) := (blk_cell BK288.out 10).trans rfl
      have hcz11_11 : w3.cell? ⟨gb288,11,none⟩ = some (.int .i64 a0_11) := (blk_cell BK288.out 11).trans rfl
      have hcz11_12 : w3.cell? ⟨gb288,12,none⟩ = some (.int .i64 a0_12) := (blk_cell BK288.out 12).trans rfl
      have hcz11_13 : w3.cell? ⟨gb288,13,none⟩ = some (.int .i64 a0_13) := (blk_cell BK288.out 13).trans rfl
      have hcz11_14 : w3.cell? ⟨gb288,14,none⟩ = some (.int .i64 a0_14) := (blk_cell BK288.out 14).trans rfl
      have hcz11_15 : w3.cell? ⟨gb288,15,none⟩ = some (.int .i64 a0_15) := (blk_cell BK288.out 15).trans rfl
      have hfz11_0 := blk_frozen BK288.out 0
      have hfz11_1 := blk_frozen BK288.out 1
      have hfz11_2 := blk_frozen BK288.out 2
      have hfz11_3 := blk_frozen BK288.out 3
      have hfz11_4 := blk_frozen BK288.out 4
      have hfz11_5 := blk_frozen BK288.out 5
      have hfz11_6 := blk_frozen BK288.out 6
      have hfz11_7 := blk_frozen BK288.out 7
      have hfz11_8 := blk_frozen BK288.out 8
      have hfz11_9 := blk_frozen BK288.out 9
      have hfz11_10 := blk_frozen BK288.out 10
      have hfz11_11 := blk_frozen BK288.out 11
      have hfz11_12 := blk_frozen BK288.out 12
      have hfz11_13 := blk_frozen BK288.out 13
      have hfz11_14 := blk_frozen BK288.out 14
      have hfz11_15 := blk_frozen BK288.out 15
      go_wp2_with (first | ((with_reducible refine gate_callee (f:=53) rfl ?_); refine goesL_ (some 5) rfl rfl Tryd.func53 (by kernel_rfl) rfl #[.int .i64 a0_0] rfl mA ?_; (with_reducible refine (impl_isId.calls a0_0 true _ A4.out).mono ?_); rintro e w' ⟨rfl,⟨nd,rfl⟩⟩; refine ⟨_,rfl,?_⟩) | (go_at_call 54; (with_reducible refine (impl_within.calls a0_1 0 7 true _ A6.out).mono ?_); rintro e w' ⟨rfl,⟨nd,rfl⟩⟩) | (go_at_call 54; (with_reducible refine (impl_within.calls a0_2 0 999999 true _ A8.out).mono ?_); rintro e w' ⟨rfl,⟨nd,rfl⟩⟩))
      go_meet
      case rel => exact ⟨_,((a0_2 == 0)),(by first | rfl | (simp; done) | (simp [*]; done)),H',⟨by first | omega | exact Nat.le_refl _⟩,⟨kA BK288.out⟩,⟨bA⟩⟩
     ·rw [if_neg c10] at H
      have c10b0 : decide (2 ≤ a0_1) = false := decide_eq_false c10
      clear c10
      (first | rw [c10b0] | (simp only [i64_w,i32_w]; rw [c10b0]) | skip)
      have H' := Aside0.mk H
      clear H
      have hcz12_0 : w3.cell? ⟨gb288,0,none⟩ = some (.int .i64 a0_0) := (blk_cell BK288.out 0).trans rfl
      have hcz12_1 : w3.cell? ⟨gb288,1,none⟩ = some (.int .i64 a0_1) := (blk_cell BK288.out 1).trans rfl
      have hcz12_2 : w3.cell? ⟨gb288,2,none⟩ = some (.int .i64 a0_2) := (blk_cell BK288.out 2).trans rfl
      have hcz12_3 : w3.cell? ⟨gb288,3,none⟩ = some (.int .i64 a0_3) := (blk_cell BK288.out 3).trans rfl
      have hcz12_4 : w3.cell? ⟨gb288,4,none⟩ = some (.int .i64 a0_4) := (blk_cell BK288.out 4).trans rfl
      have hcz12_5 : w3.cell? ⟨gb288,5,none⟩ = some (.int .i64 a0_5) := (blk_cell BK288.out 5).trans rfl
      have hcz12_6 : w3.cell? ⟨gb288,6,none⟩ = some (.int .i64 a0_6) := (blk_cell BK288.out 6).trans rfl
      have hcz12_7 : w3.cell? ⟨gb288,7,none⟩ = some (.int .i64 a0_7) := (blk_cell BK288.out 7).trans rfl
      have hcz12_8 : w3.cell? ⟨gb288,8,none⟩ = some (.string a0_8) := (blk_cell BK288.out 8).trans rfl
      have hcz12_9 : w3.cell? ⟨gb288,9,none⟩ = some (.slice A0_9 l0_9.length c0_9) := (blk_cell BK288.out 9).trans rfl
      have hcz12_10 : w3.cell? ⟨gb288,10,none⟩ = some (.int .i64 a0_10) := (blk_cell BK288.out 10).trans rfl
      have hcz12_11 : w3.cell? ⟨gb288,11,none⟩ = some (.int .i64 a0_11) := (blk_cell BK288.out 11).trans rfl
      have hcz12_12 : w3.cell? ⟨gb288,12,none⟩ = some (.int .i64 a0_12) := (blk_cell BK288.out 12).trans rfl
      have hcz12_13 : w3.cell? ⟨gb288,13,none⟩ = some (.int .i64 a0_13) := (blk_cell BK288.out 13).trans rfl
      have hcz12_14 : w3.cell? ⟨gb288,14,none⟩ = some (.int .i64 a0_14) := (blk_cell BK288.out 14).trans rfl
      have hcz12_15 : w3.cell? ⟨gb288,15,none⟩ = some (.int .i64 a0_15) := (blk_cell BK288.out 15).trans rfl
      have hfz12_0 := blk_frozen BK288.out 0
      have hfz12_1 := blk_frozen BK288.out 1
      have hfz12_2 := blk_frozen BK288.out 2
      have hfz12_3 := blk_frozen BK288.out 3
      have hfz12_4 := blk_frozen BK288.out 4
      have hfz12_5 := blk_frozen BK288.out 5
      have hfz12_6 := blk_frozen BK288.out 6
      have hfz12_7 := blk_frozen BK288.out 7
      have hfz12_8 := blk_frozen BK288.out 8
      have hfz12_9 := blk_frozen BK288.out 9
      have hfz12_10 := blk_frozen BK288.out 10
      have hfz12_11 := blk_frozen BK288.out 11
      have hfz12_12 := blk_frozen BK288.out 12
      have hfz12_13 := blk_frozen BK288.out 13
      have hfz12_14 := blk_frozen BK288.out 14
      have hfz12_15 := blk_frozen BK288.out 15
      go_wp2_with (first | ((with_reducible refine gate_callee (f:=53) rfl ?_); refine goesL_ (some 5) rfl rfl Tryd.func53 (by kernel_rfl) rfl #[.int .i64 a0_0] rfl mA ?_; (with_reducible refine (impl_isId.calls a0_0 true _ A4.out).mono ?_); rintro e w' ⟨rfl,⟨nd,rfl⟩⟩; refine ⟨_,rfl,?_⟩) | (go_at_call 54; (with_reducible refine (impl_within.calls a0_1 0 7 true _ A6.out).mono ?_); rintro e w' ⟨rfl,⟨nd,rfl⟩⟩) | (go_at_call 54; (with_reducible refine (impl_within.calls a0_2 0 999999 true _ A8.out).mono ?_); rintro e w' ⟨rfl,⟨nd,rfl⟩⟩))
      go_meet
      case rel => exact ⟨_,(false),(by first | rfl | (simp; done) | (simp [*]; done)),H',⟨by first | omega | exact Nat.le_refl _⟩,⟨kA BK288.out⟩,⟨bA⟩⟩
    ·replace c9 := Bool.eq_false_iff.mpr c9
     subst c9
     rw [if_neg (show ¬ (false = true) by decide)] at H
     have H' := Aside0.mk H
     clear H
     have hcz13_0 : w3.cell? ⟨gb288,0,none⟩ = some (.int .i64 a0_0) := (blk_cell BK288.out 0).trans rfl
     have hcz13_1 : w3.cell? ⟨gb288,1,none⟩ = some (.int .i64 a0_1) := (blk_cell BK288.out 1).trans rfl
     have hcz13_2 : w3.cell? ⟨gb288,2,none⟩ = some (.int .i64 a0_2) := (blk_cell BK288.out 2).trans rfl
     have hcz13_3 : w3.cell? ⟨gb288,3,none⟩ = some (.int .i64 a0_3) := (blk_cell BK288.out 3).trans rfl
     have hcz13_4 : w3.cell? ⟨gb288,4,none⟩ = some (.int .i64 a0_4) := (blk_cell BK288.out 4).trans rfl
     have hcz13_5 : w3.cell? ⟨gb288,5,none⟩ = some (.int .i64 a0_5) := (blk_cell BK288.out 5).trans rfl
     have hcz13_6 : w3.cell? ⟨gb288,6,none⟩ = some (.int .i64 a0_6) := (blk_cell BK288.out 6).trans rfl
     have hcz13_7 : w3.cell? ⟨gb288,7,none⟩ = some (.int .i64 a0_7) := (blk_cell BK288.out 7).trans rfl
     have hcz13_8 : w3.cell? ⟨gb288,8,none⟩ = some (.string a0_8) := (blk_cell BK288.out 8).trans rfl
     have hcz13_9 : w3.cell? ⟨gb288,9,none⟩ = some (.slice A0_9 l0_9.length c0_9) := (blk_cell BK288.out 9).trans rfl
     have hcz13_10 : w3.cell? ⟨gb288,10,none⟩ = some (.int .i64 a0_10) := (blk_cell BK288.out 10).trans rfl
     have hcz13_11 : w3.cell? ⟨gb288,11,none⟩ = some (.int .i64 a0_11) := (blk_cell BK288.out 11).trans rfl
     have hcz13_12 : w3.cell? ⟨gb288,12,none⟩ = some (.int .i64 a0_12) := (blk_cell BK288.out 12).trans rfl
     have hcz13_13 : w3.cell? ⟨gb288,13,none⟩ = some (.int .i64 a0_13) := (blk_cell BK288.out 13).trans rfl
     have hcz13_14 : w3.cell? ⟨gb288,14,none⟩ = some (.int .i64 a0_14) := (blk_cell BK288.out 14).trans rfl
     have hcz13_15 : w3.cell? ⟨gb288,15,none⟩ = some (.int .i64 a0_15) := (blk_cell BK288.out 15).trans rfl
     have hfz13_0 := blk_frozen BK288.out 0
     have hfz13_1 := blk_frozen BK288.out 1
     have hfz13_2 := blk_frozen BK288.out 2
     have hfz13_3 := blk_frozen BK288.out 3
     have hfz13_4 := blk_frozen BK288.out 4
     have hfz13_5 := blk_frozen BK288.out 5
     have hfz13_6 := blk_frozen BK288.out 6
     have hfz13_7 := blk_frozen BK288.out 7
     have hfz13_8 := blk_frozen BK288.out 8
     have hfz13_9 := blk_frozen BK288.out 9
     have hfz13_10 := blk_frozen BK288.out 10
     have hfz13_11 := blk_frozen BK288.out 11
     have hfz13_12 := blk_frozen BK288.out 12
     have hfz13_13 := blk_frozen BK288.out 13
     have hfz13_14 := blk_frozen BK288.out 14
     have hfz13_15 := blk_frozen BK288.out 15
     go_wp2_with (first | ((with_reducible refine gate_callee (f:=53) rfl ?_); refine goesL_ (some 5) rfl rfl Tryd.func53 (by kernel_rfl) rfl #[.int .i64 a0_0] rfl mA ?_; (with_reducible refine (impl_isId.calls a0_0 true _ A4.out).mono ?_); rintro e w' ⟨rfl,⟨nd,rfl⟩⟩; refine ⟨_,rfl,?_⟩) | (go_at_call 54; (with_reducible refine (impl_within.calls a0_1 0 7 true _ A6.out).mono ?_); rintro e w' ⟨rfl,⟨nd,rfl⟩⟩) | (go_at_call 54; (with_reducible refine (impl_within.calls a0_2 0 999999 false _ A8.out).mono ?_); rintro e w' ⟨rfl,⟨nd,rfl⟩⟩))
     go_meet
     case rel => exact ⟨_,(true),(by first | rfl | (simp; done) | (simp [*]; done)),H',⟨by first | omega | exact Nat.le_refl _⟩,⟨kA BK288.out⟩,⟨bA⟩⟩
   ·replace c7 := Bool.eq_false_iff.mpr c7
    subst c7
    rw [if_neg (show ¬ (false = true) by decide)] at H
    have H' := Aside0.mk H
    clear H
    have hcz14_0 : w3.cell? ⟨gb288,0,none⟩ = some (.int .i64 a0_0) := (blk_cell BK288.out 0).trans rfl
    have hcz14_1 : w3.cell? ⟨gb288,1,none⟩ = some (.int .i64 a0_1) := (blk_cell BK288.out 1).trans rfl
    have hcz14_2 : w3.cell? ⟨gb288,2,none⟩ = some (.int .i64 a0_2) := (blk_cell BK288.out 2).trans rfl
    have hcz14_3 : w3.cell? ⟨gb288,3,none⟩ = some (.int .i64 a0_3) := (blk_cell BK288.out 3).trans rfl
    have hcz14_4 : w3.cell? ⟨gb288,4,none⟩ = some (.int .i64 a0_4) := (blk_cell BK288.out 4).trans rfl
    have hcz14_5 : w3.cell? ⟨gb288,5,none⟩ = some (.int .i64 a0_5) := (blk_cell BK288.out 5).trans rfl
    have hcz14_6 : w3.cell? ⟨gb288,6,none⟩ = some (.int .i64 a0_6) := (blk_cell BK288.out 6).trans rfl
    have hcz14_7 : w3.cell? ⟨gb288,7,none⟩ = some (.int .i64 a0_7) := (blk_cell BK288.out 7).trans rfl
    have hcz14_8 : w3.cell? ⟨gb288,8,none⟩ = some (.string a0_8) := (blk_cell BK288.out 8).trans rfl
    have hcz14_9 : w3.cell? ⟨gb288,9,none⟩ = some (.slice A0_9 l0_9.length c0_9) := (blk_cell BK288.out 9).trans rfl
    have hcz14_10 : w3.cell? ⟨gb288,10,none⟩ = some (.int .i64 a0_10) := (blk_cell BK288.out 10).trans rfl
    have hcz14_11 : w3.cell? ⟨gb288,11,none⟩ = some (.int .i64 a0_11) := (blk_cell BK288.out 11).trans rfl
    have hcz14_12 : w3.cell? ⟨gb288,12,none⟩ = some (.int .i64 a0_12) := (blk_cell BK288.out 12).trans rfl
    have hcz14_13 : w3.cell? ⟨gb288,13,none⟩ = some (.int .i64 a0_13) := (blk_cell BK288.out 13).trans rfl
    have hcz14_14 : w3.cell? ⟨gb288,14,none⟩ = some (.int .i64 a0_14) := (blk_cell BK288.out 14).trans rfl
    have hcz14_15 : w3.cell? ⟨gb288,15,none⟩ = some (.int .i64 a0_15) := (blk_cell BK288.out 15).trans rfl
    have hfz14_0 := blk_frozen BK288.out 0
    have hfz14_1 := blk_frozen BK288.out 1
    have hfz14_2 := blk_frozen BK288.out 2
    have hfz14_3 := blk_frozen BK288.out 3
    have hfz14_4 := blk_frozen BK288.out 4
    have hfz14_5 := blk_frozen BK288.out 5
    have hfz14_6 := blk_frozen BK288.out 6
    have hfz14_7 := blk_frozen BK288.out 7
    have hfz14_8 := blk_frozen BK288.out 8
    have hfz14_9 := blk_frozen BK288.out 9
    have hfz14_10 := blk_frozen BK288.out 10
    have hfz14_11 := blk_frozen BK288.out 11
    have hfz14_12 := blk_frozen BK288.out 12
    have hfz14_13 := blk_frozen BK288.out 13
    have hfz14_14 := blk_frozen BK288.out 14
    have hfz14_15 := blk_frozen BK288.out 15
    go_wp2_with (first | ((with_reducible refine gate_callee (f:=53) rfl ?_); refine goesL_ (some 5) rfl rfl Tryd.func53 (by kernel_rfl) rfl #[.int .i64 a0_0] rfl mA ?_; (with_reducible refine (impl_isId.calls a0_0 true _ A4.out).mono ?_); rintro e w' ⟨rfl,⟨nd,rfl⟩⟩; refine ⟨_,rfl,?_⟩) | (go_at_call 54; (with_reducible refine (impl_within.calls a0_1 0 7 false _ A6.out).mono ?_); rintro e w' ⟨rfl,⟨nd,rfl⟩⟩))
    go_meet
    case rel => exact ⟨_,(true),(by first | rfl | (simp; done) | (simp [*]; done)),H',⟨by first | omega | exact Nat.le_refl _⟩,⟨kA BK288.out⟩,⟨bA⟩⟩
  ·replace c5 := Bool.eq_false_iff.mpr c5
   subst c5
   rw [if_neg (show ¬ (false = true) by decide)] at H
   have H' := Aside0.mk H
   clear H
   have hcz15_0 : w3.cell? ⟨gb288,0,none⟩ = some (.int .i64 a0_0) := (blk_cell BK288.out 0).trans rfl
   have hcz15_1 : w3.cell? ⟨gb288,1,none⟩ = some (.int .i64 a0_1) := (blk_cell BK288.out 1).trans rfl
   have hcz15_2 : w3.cell? ⟨gb288,2,none⟩ = some (.int .i64 a0_2) := (blk_cell BK288.out 2).trans rfl
   have hcz15_3 : w3.cell? ⟨gb288,3,none⟩ = some (.int .i64 a0_3) := (blk_cell BK288.out 3).trans rfl
   have hcz15_4 : w3.cell? ⟨gb288,4,none⟩ = some (.int .i64 a0_4) := (blk_cell BK288.out 4).trans rfl
   have hcz15_5 : w3.cell? ⟨gb288,5,none⟩ = some (.int .i64 a0_5) := (blk_cell BK288.out 5).trans rfl
   have hcz15_6 : w3.cell? ⟨gb288,6,none⟩ = some (.int .i64 a0_6) := (blk_cell BK288.out 6).trans rfl
   have hcz15_7 : w3.cell? ⟨gb288,7,none⟩ = some (.int .i64 a0_7) := (blk_cell BK288.out 7).trans rfl
   have hcz15_8 : w3.cell? ⟨gb288,8,none⟩ = some (.string a0_8) := (blk_cell BK288.out 8).trans rfl
   have hcz15_9 : w3.cell? ⟨gb288,9,none⟩ = some (.slice A0_9 l0_9.length c0_9) := (blk_cell BK288.out 9).trans rfl
   have hcz15_10 : w3.cell? ⟨gb288,10,none⟩ = some (.int .i64 a0_10) := (blk_cell BK288.out 10).trans rfl
   have hcz15_11 : w3.cell? ⟨gb288,11,none⟩ = some (.int .i64 a0_11) := (blk_cell BK288.out 11).trans rfl
   have hcz15_12 : w3.cell? ⟨gb288,12,none⟩ = some (.int .i64 a0_12) := (blk_cell BK288.out 12).trans rfl
   have hcz15_13 : w3.cell? ⟨gb288,13,none⟩ = some (.int .i64 a0_13) := (blk_cell BK288.out 13).trans rfl
   have hcz15_14 : w3.cell? ⟨gb288,14,none⟩ = some (.int .i64 a0_14) := (blk_cell BK288.out 14).trans rfl
   have hcz15_15 : w3.cell? ⟨gb288,15,none⟩ = some (.int .i64 a0_15) := (blk_cell BK288.out 15).trans rfl
   have hfz15_0 := blk_frozen BK288.out 0
   have hfz15_1 := blk_frozen BK288.out 1
   have hfz15_2 := blk_frozen BK288.out 2
   have hfz15_3 := blk_frozen BK288.out 3
   have hfz15_4 := blk_frozen BK288.out 4
   have hfz15_5 := blk_frozen BK288.out 5
   have hfz15_6 := blk_frozen BK288.out 6
   have hfz15_7 := blk_frozen BK288.out 7
   have hfz15_8 := blk_frozen BK288.out 8
   have hfz15_9 := blk_frozen BK288.out 9
   have hfz15_10 := blk_frozen BK288.out 10
   have hfz15_11 := blk_frozen BK288.out 11
   have hfz15_12 := blk_frozen BK288.out 12
   have hfz15_13 := blk_frozen BK288.out 13
   have hfz15_14 := blk_frozen BK288.out 14
   have hfz15_15 := blk_frozen BK288.out 15
   go_wp2_with (first | ((with_reducible refine gate_callee (f:=53) rfl ?_); refine goesL_ (some 5) rfl rfl Tryd.func53 (by kernel_rfl) rfl #[.int .i64 a0_0] rfl mA ?_; (with_reducible refine (impl_isId.calls a0_0 false _ A4.out).mono ?_); rintro e w' ⟨rfl,⟨nd,rfl⟩⟩; refine ⟨_,rfl,?_⟩))
   go_meet
   case rel => exact ⟨_,(true),(by first | rfl | (simp; done) | (simp [*]; done)),H',⟨by first | omega | exact Nat.le_refl _⟩,⟨kA BK288.out⟩,⟨bA⟩⟩
 case rest =>
  clear HC2
  try clear c1
  try clear c2
  try clear p2
  try clear c5
  try clear c7
  try clear c9
  try clear c10
  try clear c10b0
  try clear hcz11_0
  try clear hcz11_1
  try clear hcz11_10
  try clear hcz11_11
  try clear hcz11_12
  try clear hcz11_13
  try clear hcz11_14
  try clear hcz11_15
  try clear hcz11_2
  try clear hcz11_3
  try clear hcz11_4
  try clear hcz11_5
  try clear hcz11_6
  try clear hcz11_7
  try clear hcz11_8
  try clear hcz11_9
  try clear hcz12_0
  try clear hcz12_1
  try clear hcz12_10
  try clear hcz12_11
  try clear hcz12_12
  try clear hcz12_13
  try clear hcz12_14
  try clear hcz12_15
  try clear hcz12_2
  try clear hcz12_3
  try clear hcz12_4
  try clear hcz12_5
  try clear hcz12_6
  try clear hcz12_7
  try clear hcz12_8
  try clear hcz12_9
  try clear hcz13_0
  try clear hcz13_1
  try clear hcz13_10
  try clear hcz13_11
  try clear hcz13_12
  try clear hcz13_13
  try clear hcz13_14
  try clear hcz13_15
  try clear hcz13_2
  try clear hcz13_3
  try clear hcz13_4
  try clear hcz13_5
  try clear hcz13_6
  try clear hcz13_7
  try clear hcz13_8
  try clear hcz13_9
  try clear hcz14_0
  try clear hcz14_1
  try clear hcz14_10
  try clear hcz14_11
  try clear hcz14_12
  try clear hcz14_13
  try clear hcz14_14
  try clear hcz14_15
  try clear hcz14_2
  try clear hcz14_3
  try clear hcz14_4
  try clear hcz14_5
  try clear hcz14_6
  try clear hcz14_7
  try clear hcz14_8
  try clear hcz14_9
  try clear hcz15_0
  try clear hcz15_1
  try clear hcz15_10
  try clear hcz15_11
  try clear hcz15_12
  try clear hcz15_13
  try clear hcz15_14
  try clear hcz15_15
  try clear hcz15_2
  try clear hcz15_3
  try clear hcz15_4
  try clear hcz15_5
  try clear hcz15_6
  try clear hcz15_7
  try clear hcz15_8
  try clear hcz15_9
  try clear hfz11_0
  try clear hfz11_1
  try clear hfz11_10
  try clear hfz11_11
  try clear hfz11_12
  try clear hfz11_13
  try clear hfz11_14
  try clear hfz11_15
  try clear hfz11_2
  try clear hfz11_3
  try clear hfz11_4
  try clear hfz11_5
  try clear hfz11_6
  try clear hfz11_7
  try clear hfz11_8
  try clear hfz11_9
  try clear hfz12_0
  try clear hfz12_1
  try clear hfz12_10
  try clear hfz12_11
  try clear hfz12_12
  try clear hfz12_13
  try clear hfz12_14
  try clear hfz12_15
  try clear hfz12_2
  try clear hfz12_3
  try clear hfz12_4
  try clear hfz12_5
  try clear hfz12_6
  try clear hfz12_7
  try clear hfz12_8
  try clear hfz12_9
  try clear hfz13_0
  try clear hfz13_1
  try clear hfz13_10
  try clear hfz13_11
  try clear hfz13_12
  try clear hfz13_13
  try clear hfz13_14
  try clear hfz13_15
  try clear hfz13_2
  try clear hfz13_3
  try clear hfz13_4
  try clear hfz13_5
  try clear hfz13_6
  try clear hfz13_7
  try clear hfz13_8
  try clear hfz13_9
  try clear hfz14_0
  try clear hfz14_1
  try clear hfz14_10
  try clear hfz14_11
  try clear hfz14_12
  try clear hfz14_13
  try clear hfz14_14
  try clear hfz14_15
  try clear hfz14_2
  try clear hfz14_3
  try clear hfz14_4
  try clear hfz14_5
  try clear hfz14_6
  try clear hfz14_7
  try clear hfz14_8
  try clear hfz14_9
  try clear hfz15_0
  try clear hfz15_1
  try clear hfz15_10
  try clear hfz15_11
  try clear hfz15_12
  try clear hfz15_13
  try clear hfz15_14
  try clear hfz15_15
  try clear hfz15_2
  try clear hfz15_3
  try clear hfz15_4
  try clear hfz15_5
  try clear hfz15_6
  try clear hfz15_7
  try clear hfz15_8
  try clear hfz15_9
  obtain ⟨kq,x28_1,rfl,HA,HJ1,BK288,HB⟩ := hcut
  cases kq with
  | zero => exact absurd HA.out (by simp [impl_WorkerOK.j0])
  | succ kj1 =>
   have H := HA.out
   clear HA
   simp only [impl_WorkerOK.j0] at H
   by_cases c16 : x28_1 = true
   ·subst c16
    rw [if_pos rfl] at H
    obtain rfl := Option.some.inj H
    go_wp2
    go_ret
    exact ⟨by first | rfl | (simp [errW_none,errW_some] <;> rfl) | (simp [*,errW_none,errW_some] <;> rfl),bA⟩
   ·replace c16 := Bool.eq_false_iff.mpr c16
    subst c16
    rw [if_neg (show ¬ (false = true) by decide)] at H
    have HC17 := Aside0.mk H
    clear H
    go_upto_region 3 with (fail)
    go_cut [62] (fun v62 wc => ∃ (kq : Nat) (x62_16 : Bool),v62 = .bool x62_16 ∧ Aside0 (impl_WorkerOK.j1 kq x62_16 a0_0 a0_1 a0_2 a0_3 a0_4 a0_5 a0_6 a0_7 a0_8 l0_9 a0_10 a0_11 a0_12 a0_13 a0_14 a0_15 = some r) ∧ Aside0 (kq ≤ kj1) ∧ Aside0 (wc.heap[gb288]? = some (.cells #[.int .i64 a0_0,.int .i64 a0_1,.int .i64 a0_2,.int .i64 a0_3,.int .i64 a0_4,.int .i64 a0_5,.int .i64 a0_6,.int .i64 a0_7,.string a0_8,(.slice A0_9 l0_9.length c0_9),.int .i64 a0_10,.int .i64 a0_11,.int .i64 a0_12,.int .i64 a0_13,.int .i64 a0_14,.int .i64 a0_15] 51 (0,0))) ∧ Aside0 (Below w.heap.size w wc))
    case first =>
     have H := HC17.out
     clear HC17
     replace H := Option.bind_eq_some_iff.mp H
     obtain ⟨t292,A180,H⟩ := H
     try dsimp only at H
     have A18 := Aside0.mk A180
     clear A180
     by_cases c19 : t292 = true
     ·subst c19
      rw [if_pos rfl] at H
      replace H := Option.bind_eq_some_iff.mp H
      obtain ⟨t293,A200,H⟩ := H
      try dsimp only at H
      have A20 := Aside0.mk A200
      clear A200
      by_cases c21 : t293 = true
      ·subst c21
       rw [if_pos rfl] at H
       by_cases c22 : a0_4 = a0_2
       ·rw [if_pos c22] at H
        have c22b0 : (a0_4 == a0_2) = true := beq_iff_eq.mpr c22
        have c22b1 : (a0_4 != a0_2) = false := bne_eq_false_iff_eq.mpr c22
        clear c22
        (first | rw [c22b0] | (simp only [i64_w,i32_w]; rw [c22b0]) | skip)
        by_cases c23 : a0_3 = 3
        ·rw [if_pos c23] at H
         have c23b0 : (a0_3 == 3) = true := beq_iff_eq.mpr c23
         have c23b1 : (a0_3 != 3) = false := bne_eq_false_iff_eq.mpr c23
         clear c23
         have H' := Aside0.mk H
         clear H
         have hcz24_0 : wc.cell? ⟨gb288,0,none⟩ = some (.int .i64 a0_0) := (blk_cell BK288.out 0).trans rfl
         have hcz24_1 : wc.cell? ⟨gb288,1,none⟩ = some (.int .i64 a0_1) := (blk_cell BK288.out 1).trans rfl
         have hcz24_2 : wc.cell? ⟨gb288,2,none⟩ = some (.int .i64 a0_2) := (blk_cell BK288.out 2).trans rfl
         have hcz24_3 : wc.cell? ⟨gb288,3,none⟩ = some (.int .i64 a0_3) := (blk_cell BK288.out 3).trans rfl
         have hcz24_4 : wc.cell? ⟨gb288,4,none⟩ = some (.int .i64 a0_4) := (blk_cell BK288.out 4).trans rfl
         have hcz24_5 : wc.cell? ⟨gb288,5,none⟩ = some (.int .i64 a0_5) := (blk_cell BK288.out 5).trans rfl
         have hcz24_6 : wc.cell? ⟨gb288,6,none⟩ = some (.int .i64 a0_6) := (blk_cell BK288.out 6).trans rfl
         have hcz24_7 : wc.cell? ⟨gb288,7,none⟩ = some (.int .i64 a0_7) := (blk_cell BK288.out 7).trans rfl
         have hcz24_8 : wc.cell? ⟨gb288,8,none⟩ = some (.string a0_8) := (blk_cell BK288.out 8).trans rfl
         have hcz24_9 : wc.cell? ⟨gb288,9,none⟩ = some (.slice A0_9 l0_9.length c0_9) := (blk_cell BK288.out 9).trans rfl
         have hcz24_10 : wc.cell? ⟨gb288,10,none⟩ = some (.int .i64 a0_10) := (blk_cell BK288.out 10).trans rfl
         have hcz24_11 : wc.cell? ⟨gb288,11,none⟩ = some (.int .i64 a0_11) := (blk_cell BK288.out 11).trans rfl
         have hcz24_12 : wc.cell? ⟨gb288,12,none⟩ = some (.int .i64 a0_12) := (blk_cell BK288.out 12).trans rfl
         have hcz24_13 : wc.cell? ⟨gb288,13,none⟩ = some (.int .i64 a0_13) := (blk_cell BK288.out 13).trans rfl
         have hcz24_14 : wc.cell? ⟨gb288,14,none⟩ = some (.int .i64 a0_14) := (blk_cell BK288.out 14).trans rfl
         have hcz24_15 : wc.cell? ⟨gb288,15,none⟩ = some (.int .i64 a0_15) := (blk_cell BK288.out 15).trans rfl
         have hfz24_0 := blk_frozen BK288.out 0
         have hfz24_1 := blk_frozen BK288.out 1
         have hfz24_2 := blk_frozen BK288.out 2
         have hfz24_3 := blk_frozen BK288.out 3
         have hfz24_4 := blk_frozen BK288.out 4
         have hfz24_5 := blk_frozen BK288.out 5
         have hfz24_6 := blk_frozen BK288.out 6
         have hfz24_7 := blk_frozen BK288.out 7
         have hfz24_8 := blk_frozen BK288.out 8
         have hfz24_9 := blk_frozen BK288.out 9
         have hfz24_10 := blk_frozen BK288.out 10
         have hfz24_11 := blk_frozen BK288.out 11
         have hfz24_12 := blk_frozen BK288.out 12
         have hfz24_13 := blk_frozen BK288.out 13
         have hfz24_14 := blk_frozen BK288.out 14
         have hfz24_15 := blk_frozen BK288.out 15
         go_wp2_with (first | ((with_reducible refine gate_callee (f:=54) rfl ?_); refine goesL_ (some 31) rfl rfl Tryd.func54 (by kernel_rfl) rfl #[.int .i64 a0_1,.int .i64 4,.int .i64 6] rfl mA ?_; (with_reducible refine (impl_within.calls a0_1 4 6 true _ A18.out).mono ?_); rintro e w' ⟨rfl,⟨nd,rfl⟩⟩; refine ⟨_,rfl,?_⟩) | (go_at_call 55; (with_reducible refine (impl_RecordOK.calls kj1 a0_3 a0_4 a0_5 a0_6 a0_7 a0_8 true _ ?side1 A20.out).mono ?_); (case side1 => exact HV.out.below bA); rintro e w25 ⟨rfl,hb⟩; have n0_ := Aside0.mk (blk_below (g:=gb288) (o:=.cells #[.int .i64 a0_0,.int .i64 a0_1,.int .i64 a0_2,.int .i64 a0_3,.int .i64 a0_4,.int .i64 a0_5,.int .i64 a0_6,.int .i64 a0_7,.string a0_8,.slice A0_9 l0_9.length c0_9,.int .i64 a0_10,.int .i64 a0_11,.int .i64 a0_12,.int .i64 a0_13,.int .i64 a0_14,.int .i64 a0_15] 51 (0,0)) (kA BK288.out) hb); have n1_ := Aside0.mk (below_step bA hb); clear BK288; clear HB; have BK288 := n0_; have HB := n1_; clear n0_ n1_; (try clear hb); (try clear hb2); (try clear hk); (try clear hi); have hcz26_0 : w25.cell? ⟨gb288,0,none⟩ = some (.int .i64 a0_0) := (blk_cell BK288.out 0).trans rfl; have hcz26_1 : w25.cell? ⟨gb288,1,none⟩ = some (.int .i64 a0_1) := (blk_cell BK288.out 1).trans rfl; have hcz26_2 : w25.cell? ⟨gb288,2,none⟩ = some (.int .i64 a0_2) := (blk_cell BK288.out 2).trans rfl; have hcz26_3 : w25.cell? ⟨gb288,3,none⟩ = some (.int .i64 a0_3) := (blk_cell BK288.out 3).trans rfl; have hcz26_4 : w25.cell? ⟨gb288,4,none⟩ = some (.int .i64 a0_4) := (blk_cell BK288.out 4).trans rfl; have hcz26_5 : w25.cell? ⟨gb288,5,none⟩ = some (.int .i64 a0_5) := (blk_cell BK288.out 5).trans rfl; have hcz26_6 : w25.cell? ⟨gb288,6,none⟩ = some (.int .i64 a0_6) := (blk_cell BK288.out 6).trans rfl; have hcz26_7 : w25.cell? ⟨gb288,7,none⟩ = some (.int .i64 a0_7) := (blk_cell BK288.out 7).trans rfl; have hcz26_8 : w25.cell? ⟨gb288,8,none⟩ = some (.string a0_8) := (blk_cell BK288.out 8).trans rfl; have hcz26_9 : w25.cell? ⟨gb288,9,none⟩ = some (.slice A0_9 l0_9.length c0_9) := (blk_cell BK288.out 9).trans rfl; have hcz26_10 : w25.cell? ⟨gb288,10,none⟩ = some (.int .i64 a0_10) := (blk_cell BK288.out 10).trans rfl; have hcz26_11 : w25.cell? ⟨gb288,11,none⟩ = some (.int .i64 a0_11) := (blk_cell BK288.out 11).trans rfl; have hcz26_12 : w25.cell? ⟨gb288,12,none⟩ = some (.int .i64 a0_12) := (blk_cell BK288.out 12).trans rfl; have hcz26_13 : w25.cell? ⟨gb288,13,none⟩ = some (.int .i64 a0_13) := (blk_cell BK288.out 13).trans rfl; have hcz26_14 : w25.cell? ⟨gb288,14,none⟩ = some (.int .i64 a0_14) := (blk_cell BK288.out 14).trans rfl; have hcz26_15 : w25.cell? ⟨gb288,15,none⟩ = some (.int .i64 a0_15) := (blk_cell BK288.out 15).trans rfl; have hfz26_0 := blk_frozen BK288.out 0; have hfz26_1 := blk_frozen BK288.out 1; have hfz26_2 := blk_frozen BK288.out 2; have hfz26_3 := blk_frozen BK288.out 3; have hfz26_4 := blk_frozen BK288.out 4; have hfz26_5 := blk_frozen BK288.out 5; have hfz26_6 := blk_frozen BK288.out 6; have hfz26_7 := blk_frozen BK288.out 7; have hfz26_8 := blk_frozen BK288.out 8; have hfz26_9 := blk_frozen BK288.out 9; have hfz26_10 := blk_frozen BK288.out 10; have hfz26_11 := blk_frozen BK288.out 11; have hfz26_12 := blk_frozen BK288.out 12; have hfz26_13 := blk_frozen BK288.out 13; have hfz26_14 := blk_frozen BK288.out 14; have hfz26_15 := blk_frozen BK288.out 15))
         go_meet
         case rel => exact ⟨_,(!true),(by first | rfl | (simp; done) | (simp [*]; done)),H',⟨by have := HJ1.out; first | omega | exact Nat.le_refl _⟩,⟨kA BK288.out⟩,⟨bA⟩⟩
        ·rw [if_neg c23] at H
         have c23b0 : (a0_3 == 3) = false := beq_eq_false_iff_ne.mpr c23
         have c23b1 : (a0_3 != 3) = true := bne_iff_ne.mpr c23
         by_cases c27 : a0_1 = 6
         ·rw [if_pos c27] at H
          have c27b0 : (a0_1 == 6) = true := beq_iff_eq.mpr c27
          have c27b1 : (a0_1 != 6) = false := bne_eq_false_iff_eq.mpr c27
          clear c27
          have H' := Aside0.mk H
          clear H
          have hcz28_0 : wc.cell? ⟨gb288,0,none⟩ = some (.int .i64 a0_0) := (blk_cell BK288.out 0).trans rfl
          have hcz28_1 : wc.cell? ⟨gb288,1,none⟩ = some (.int .i64 a0_1) := (blk_cell BK288.out 1).trans rfl
          have hcz28_2 : wc.cell? ⟨gb288,2,none⟩ = some (.int .i64 a0_2) := (blk_cell BK288.out 2).trans rfl
          have hcz28_3 : wc.cell? ⟨gb288,3,none⟩ = some (.int .i64 a0_3) := (blk_cell BK288.out 3).trans rfl
          have hcz28_4 : wc.cell? ⟨gb288,4,none⟩ = some (.int .i64 a0_4) := (blk_cell BK288.out 4).trans rfl
          have hcz28_5 : wc.cell? ⟨gb288,5,none⟩ = some (.int .i64 a0_5) := (blk_cell BK288.out 5).trans rfl
          have hcz28_6 : wc.cell? ⟨gb288,6,none⟩ = some (.int .i64 a0_6) := (blk_cell BK288.out 6).trans rfl
          have hcz28_7 : wc.cell? ⟨gb288,7,none⟩ = some (.int .i64 a0_7) := (blk_cell BK288.out 7).trans rfl
          have hcz28_8 : wc.cell? ⟨gb288,8,none⟩ = some (.string a0_8) := (blk_cell BK288.out 8).trans rfl
          have hcz28_9 : wc.cell? ⟨gb288,9,none⟩ = some (.slice A0_9 l0_9.length c0_9) := (blk_cell BK288.out 9).trans rfl
          have hcz28_10 : wc.cell? ⟨gb288,10,none⟩ = some (.int .i64 a0_10) := (blk_cell BK288.out 10).trans rfl
          have hcz28_11 : wc.cell? ⟨gb288,11,none⟩ = some (.int .i64 a0_11) := (blk_cell BK288.out 11).trans rfl
          have hcz28_12 : wc.cell? ⟨gb288,12,none⟩ = some (.int .i64 a0_12) := (blk_cell BK288.out 12).trans rfl
          have hcz28_13 : wc.cell? ⟨gb288,13,none⟩ = some (.int .i64 a0_13) := (blk_cell BK288.out 13).trans rfl
          have hcz28_14 : wc.cell? ⟨gb288,14,none⟩ = some (.int .i64 a0_14) := (blk_cell BK288.out 14).trans rfl
          have hcz28_15 : wc.cell? ⟨gb288,15,none⟩ = some (.int .i64 a0_15) := (blk_cell BK288.out 15).trans rfl
          have hfz28_0 := blk_frozen BK288.out 0
          have hfz28_1 := blk_frozen BK288.out 1
          have hfz28_2 := blk_frozen BK288.out 2
          have hfz28_3 := blk_frozen BK288.out 3
          have hfz28_4 := blk_frozen BK288.out 4
          have hfz28_5 := blk_frozen BK288.out 5
          have hfz28_6 := blk_frozen BK288.out 6
          have hfz28_7 := blk_frozen BK288.out 7
          have hfz28_8 := blk_frozen BK288.out 8
          have hfz28_9 := blk_frozen BK288.out 9
          have hfz28_10 := blk_frozen BK288.out 10
          have hfz28_11 := blk_frozen BK288.out 11
          have hfz28_12 := blk_frozen BK288.out 12
          have hfz28_13 := blk_frozen BK288.out 13
          have hfz28_14 := blk_frozen BK288.out 14
          have hfz28_15 := blk_frozen BK288.out 15
          go_wp2_with (first | ((with_reducible refine gate_callee (f:=54) rfl ?_); refine goesL_ (some 31) rfl rfl Tryd.func54 (by kernel_rfl) rfl #[.int .i64 a0_1,.int .i64 4,.int .i64 6] rfl mA ?_; (with_reducible refine (impl_within.calls a0_1 4 6 true _ A18.out).mono ?_); rintro e w' ⟨rfl,⟨nd,rfl⟩⟩; refine ⟨_,rfl,?_⟩) | (go_at_call 55; (with_reducible refine (impl_RecordOK.calls kj1 a0_3 a0_4 a0_5 a0_6 a0_7 a0_8 true _ ?side1 A20.out).mono ?_); (case side1 => exact HV.out.below bA); rintro e w29 ⟨rfl,hb⟩; have n0_ := Aside0.mk (blk_below (g:=gb288) (o:=.cells #[.int .i64 a0_0,.int .i64 a0_1,.int .i64 a0_2,.int .i64 a0_3,.int .i64 a0_4,.int .i64 a0_5,.int .i64 a0_6,.int .i64 a0_7,.string a0_8,.slice A0_9 l0_9.length c0_9,.int .i64 a0_10,.int .i64 a0_11,.int .i64 a0_12,.int .i64 a0_13,.int .i64 a0_14,.int .i64 a0_15] 51 (0,0)) (kA BK288.out) hb); have n1_ := Aside0.mk (below_step bA hb); clear BK288; clear HB; have BK288 := n0_; have HB := n1_; clear n0_ n1_; (try clear hb); (try clear hb2); (try clear hk); (try clear hi); have hcz30_0 : w29.cell? ⟨gb288,0,none⟩ = some (.int .i64 a0_0) := (blk_cell BK288.out 0).trans rfl; have hcz30_1 : w29.cell? ⟨gb288,1,none⟩ = some (.int .i64 a0_1) := (blk_cell BK288.out 1).trans rfl; have hcz30_2 : w29.cell? ⟨gb288,2,none⟩ = some (.int .i64 a0_2) := (blk_cell BK288.out 2).trans rfl; have hcz30_3 : w29.cell? ⟨gb288,3,none⟩ = some (.int .i64 a0_3) := (blk_cell BK288.out 3).trans rfl; have hcz30_4 : w29.cell? ⟨gb288,4,none⟩ = some (.int .i64 a0_4) := (blk_cell BK288.out 4).trans rfl; have hcz30_5 : w29.cell? ⟨gb288,5,none⟩ = some (.int .i64 a0_5) := (blk_cell BK288.out 5).trans rfl; have hcz30_6 : w29.cell? ⟨gb288,6,none⟩ = some (.int .i64 a0_6) := (blk_cell BK288.out 6).trans rfl; have hcz30_7 : w29.cell? ⟨gb288,7,none⟩ = some (.int .i64 a0_7) := (blk_cell BK288.out 7).trans rfl; have hcz30_8 : w29.cell? ⟨gb288,8,none⟩ = some (.string a0_8) := (blk_cell BK288.out 8).trans rfl; have hcz30_9 : w29.cell? ⟨gb288,9,none⟩ = some (.slice A0_9 l0_9.length c0_9) := (blk_cell BK288.out 9).trans rfl; have hcz30_10 : w29.cell? ⟨gb288,10,none⟩ = some (.int .i64 a0_10) := (blk_cell BK288.out 10).trans rfl; have hcz30_11 : w29.cell? ⟨gb288,11,none⟩ = some (.int .i64 a0_11) := (blk_cell BK288.out 11).trans rfl; have hcz30_12 : w29.cell? ⟨gb288,12,none⟩ = some (.int .i64 a0_12) := (blk_cell BK288.out 12).trans rfl; have hcz30_13 : w29.cell? ⟨gb288,13,none⟩ = some (.int .i64 a0_13) := (blk_cell BK288.out 13).trans rfl; have hcz30_14 : w29.cell? ⟨gb288,14,none⟩ = some (.int .i64 a0_14) := (blk_cell BK288.out 14).trans rfl; have hcz30_15 : w29.cell? ⟨gb288,15,none⟩ = some (.int .i64 a0_15) := (blk_cell BK288.out 15).trans rfl; have hfz30_0 := blk_frozen BK288.out 0; have hfz30_1 := blk_frozen BK288.out 1; have hfz30_2 := blk_frozen BK288.out 2; have hfz30_3 := blk_frozen BK288.out 3; have hfz30_4 := blk_frozen BK288.out 4; have hfz30_5 := blk_frozen BK288.out 5; have hfz30_6 := blk_frozen BK288.out 6; have hfz30_7 := blk_frozen BK288.out 7; have hfz30_8 := blk_frozen BK288.out 8; have hfz30_9 := blk_frozen BK288.out 9; have hfz30_10 := blk_frozen BK288.out 10; have hfz30_11 := blk_frozen BK288.out 11; have hfz30_12 := blk_frozen BK288.out 12; have hfz30_13 := blk_frozen BK288.out 13; have hfz30_14 := blk_frozen BK288.out 14; have hfz30_15 := blk_frozen BK288.out 15))
          go_meet
          case rel => exact ⟨_,(!(a0_3 == 4)),(by first | rfl | (simp; done) | (simp [*]; done)),H',⟨by have := HJ1.out; first | omega | exact Nat.le_refl _⟩,⟨kA BK288.out⟩,⟨bA⟩⟩
         ·rw [if_neg c27] at H
          have c27b0 : (a0_1 == 6) = false := beq_eq_false_iff_ne.mpr c27
          have c27b1 : (a0_1 != 6) = true := bne_iff_ne.mpr c27
          have H' := Aside0.mk H
          clear H
          have hcz31_0 : wc.cell? ⟨gb288,0,none⟩ = some (.int .i64 a0_0) := (blk_cell BK288.out 0).trans rfl
          have hcz31_1 : wc.cell? ⟨gb288,1,none⟩ = some (.int .i64 a0_1) := (blk_cell BK288.out 1).trans rfl
          have hcz31_2 : wc.cell? ⟨gb288,2,none⟩ = some (.int .i64 a0_2) := (blk_cell BK288.out 2).trans rfl
          have hcz31_3 : wc.cell? ⟨gb288,3,none⟩ = some (.int .i64 a0_3) := (blk_cell BK288.out 3).trans rfl
          have hcz31_4 : wc.cell? ⟨gb288,4,none⟩ = some (.int .i64 a0_4) := (blk_cell BK288.out 4).trans rfl
          have hcz31_5 : wc.cell? ⟨gb288,5,none⟩ = some (.int .i64 a0_5) := (blk_cell BK288.out 5).trans rfl
          have hcz31_6 : wc.cell? ⟨gb288,6,none⟩ = some (.int .i64 a0_6) := (blk_cell BK288.out 6).trans rfl
          have hcz31_7 : wc.cell? ⟨gb288,7,none⟩ = some (.int .i64 a0_7) := (blk_cell BK288.out 7).trans rfl
          have hcz31_8 : wc.cell? ⟨gb288,8,none⟩ = some (.string a0_8) := (blk_cell BK288.out 8).trans rfl
          have hcz31_9 : wc.cell? ⟨gb288,9,none⟩ = some (.slice A0_9 l0_9.length c0_9) := (blk_cell BK288.out 9).trans rfl
          have hcz31_10 : wc.cell? ⟨gb288,10,none⟩ = some (.int .i64 a0_10) := (blk_cell BK288.out 10).trans rfl
          have hcz31_11 : wc.cell? ⟨gb288,11,none⟩ = some (.int .i64 a0_11) := (blk_cell BK288.out 11).trans rfl
          have hcz31_12 : wc.cell? ⟨gb288,12,none⟩ = some (.int .i64 a0_12) := (blk_cell BK288.out 12).trans rfl
          have hcz31_13 : wc.cell? ⟨gb288,13,none⟩ = some (.int .i64 a0_13) := (blk_cell BK288.out 13).trans rfl
          have hcz31_14 : wc.cell? ⟨gb288,14,none⟩ = some (.int .i64 a0_14) := (blk_cell BK288.out 14).trans rfl
          have hcz31_15 : wc.cell? ⟨gb288,15,none⟩ = some (.int .i64 a0_15) := (blk_cell BK288.out 15).trans rfl
          have hfz31_0 := blk_frozen BK288.out 0
          have hfz31_1 := blk_frozen BK288.out 1
          have hfz31_2 := blk_frozen BK288.out 2
          have hfz31_3 := blk_frozen BK288.out 3
          have hfz31_4 := blk_frozen BK288.out 4
          have hfz31_5 := blk_frozen BK288.out 5
          have hfz31_6 := blk_frozen BK288.out 6
          have hfz31_7 := blk_frozen BK288.out 7
          have hfz31_8 := blk_frozen BK288.out 8
          have hfz31_9 := blk_frozen BK288.out 9
          have hfz31_10 := blk_frozen BK288.out 10
          have hfz31_11 := blk_frozen BK288.out 11
          have hfz31_12 := blk_frozen BK288.out 12
          have hfz31_13 := blk_frozen BK288.out 13
          have hfz31_14 := blk_frozen BK288.out 14
          have hfz31_15 := blk_frozen BK288.out 15
          go_wp2_with (first | ((with_reducible refine gate_callee (f:=54) rfl ?_); refine goesL_ (some 31) rfl rfl Tryd.func54 (by kernel_rfl) rfl #[.int .i64 a0_1,.int .i64 4,.int .i64 6] rfl mA ?_; (with_reducible refine (impl_within.calls a0_1 4 6 true _ A18.out).mono ?_); rintro e w' ⟨rfl,⟨nd,rfl⟩⟩; refine ⟨_,rfl,?_⟩) | (go_at_call 55; (with_reducible refine (impl_RecordOK.calls kj1 a0_3 a0_4 a0_5 a0_6 a0_7 a0_8 true _ ?side1 A20.out).mono ?_); (case side1 => exact HV.out.below bA); rintro e w32 ⟨rfl,hb⟩; have n0_ := Aside0.mk (blk_below (g:=gb288) (o:=.cells #[.int .i64 a0_0,.int .i64 a0_1,.int .i64 a0_2,.int .i64 a0_3,.int .i64 a0_4,.int .i64 a0_5,.int .i64 a0_6,.int .i64 a0_7,.string a0_8,.slice A0_9 l0_9.length c0_9,.int .i64 a0_10,.int .i64 a0_11,.int .i64 a0_12,.int .i64 a0_13,.int .i64 a0_14,.int .i64 a0_15] 51 (0,0)) (kA BK288.out) hb); have n1_ := Aside0.mk (below_step bA hb); clear BK288; clear HB; have BK288 := n0_; have HB := n1_; clear n0_ n1_; (try clear hb); (try clear hb2); (try clear hk); (try clear hi); have hcz33_0 : w32.cell? ⟨gb288,0,none⟩ = some (.int .i64 a0_0) := (blk_cell BK288.out 0).trans rfl; have hcz33_1 : w32.cell? ⟨gb288,1,none⟩ = some (.int .i64 a0_1) := (blk_cell BK288.out 1).trans rfl; have hcz33_2 : w32.cell? ⟨gb288,2,none⟩ = some (.int .i64 a0_2) := (blk_cell BK288.out 2).trans rfl; have hcz33_3 : w32.cell? ⟨gb288,3,none⟩ = some (.int .i64 a0_3) := (blk_cell BK288.out 3).trans rfl; have hcz33_4 : w32.cell? ⟨gb288,4,none⟩ = some (.int .i64 a0_4) := (blk_cell BK288.out 4).trans rfl; have hcz33_5 : w32.cell? ⟨gb288,5,none⟩ = some (.int .i64 a0_5) := (blk_cell BK288.out 5).trans rfl; have hcz33_6 : w32.cell? ⟨gb288,6,none⟩ = some (.int .i64 a0_6) := (blk_cell BK288.out 6).trans rfl; have hcz33_7 : w32.cell? ⟨gb288,7,none⟩ = some (.int .i64 a0_7) := (blk_cell BK288.out 7).trans rfl; have hcz33_8 : w32.cell? ⟨gb288,8,none⟩ = some (.string a0_8) := (blk_cell BK288.out 8).trans rfl; have hcz33_9 : w32.cell? ⟨gb288,9,none⟩ = some (.slice A0_9 l0_9.length c0_9) := (blk_cell BK288.out 9).trans rfl; have hcz33_10 : w32.cell? ⟨gb288,10,none⟩ = some (.int .i64 a0_10) := (blk_cell BK288.out 10).trans rfl; have hcz33_11 : w32.cell? ⟨gb288,11,none⟩ = some (.int .i64 a0_11) := (blk_cell BK288.out 11).trans rfl; have hcz33_12 : w32.cell? ⟨gb288,12,none⟩ = some (.int .i64 a0_12) := (blk_cell BK288.out 12).trans rfl; have hcz33_13 : w32.cell? ⟨gb288,13,none⟩ = some (.int .i64 a0_13) := (blk_cell BK288.out 13).trans rfl; have hcz33_14 : w32.cell? ⟨gb288,14,none⟩ = some (.int .i64 a0_14) := (blk_cell BK288.out 14).trans rfl; have hcz33_15 : w32.cell? ⟨gb288,15,none⟩ = some (.int .i64 a0_15) := (blk_cell BK288.out 15).trans rfl; have hfz33_0 := blk_frozen BK288.out 0; have hfz33_1 := blk_frozen BK288.out 1; have hfz33_2 := blk_frozen BK288.out 2; have hfz33_3 := blk_frozen BK288.out 3; have hfz33_4 := blk_frozen BK288.out 4; have hfz33_5 := blk_frozen BK288.out 5; have hfz33_6 := blk_frozen BK288.out 6; have hfz33_7 := blk_frozen BK288.out 7; have hfz33_8 := blk_frozen BK288.out 8; have hfz33_9 := blk_frozen BK288.out 9; have hfz33_10 := blk_frozen BK288.out 10; have hfz33_11 := blk_frozen BK288.out 11; have hfz33_12 := blk_frozen BK288.out 12; have hfz33_13 := blk_frozen BK288.out 13; have hfz33_14 := blk_frozen BK288.out 14; have hfz33_15 := blk_frozen BK288.out 15))
          go_meet
          case rel => exact ⟨_,(!false),(by first | rfl | (simp; done) | (simp [*]; done)),H',⟨by have := HJ1.out; first | omega | exact Nat.le_refl _⟩,⟨kA BK288.out⟩,⟨bA⟩⟩
       ·rw [if_neg c22] at H
        have c22b0 : (a0_4 == a0_2) = false := beq_eq_false_iff_ne.mpr c22
        have c22b1 : (a0_4 != a0_2) = true := bne_iff_ne.mpr c22
        (first | rw [c22b0] | (simp only [i64_w,i32_w]; rw [c22b0]) | skip)
        have H' := Aside0.mk H
        clear H
        have hcz34_0 : wc.cell? ⟨gb288,0,none⟩ = some (.int .i64 a0_0) := (blk_cell BK288.out 0).trans rfl
        have hcz34_1 : wc.cell? ⟨gb288,1,none⟩ = some (.int .i64 a0_1) := (blk_cell BK288.out 1).trans rfl
        have hcz34_2 : wc.cell? ⟨gb288,2,none⟩ = some (.int .i64 a0_2) := (blk_cell BK288.out 2).trans rfl
        have hcz34_3 : wc.cell? ⟨gb288,3,none⟩ = some (.int .i64 a0_3) := (blk_cell BK288.out 3).trans rfl
        have hcz34_4 : wc.cell? ⟨gb288,4,none⟩ = some (.int .i64 a0_4) := (blk_cell BK288.out 4).trans rfl
        have hcz34_5 : wc.cell? ⟨gb288,5,none⟩ = some (.int .i64 a0_5) := (blk_cell BK288.out 5).trans rfl
        have hcz34_6 : wc.cell? ⟨gb288,6,none⟩ = some (.int .i64 a0_6) := (blk_cell BK288.out 6).trans rfl
        have hcz34_7 : wc.cell? ⟨gb288,7,none⟩ = some (.int .i64 a0_7) := (blk_cell BK288.out 7).trans rfl
        have hcz34_8 : wc.cell? ⟨gb288,8,none⟩ = some (.string a0_8) := (blk_cell BK288.out 8).trans rfl
        have hcz34_9 : wc.cell? ⟨gb288,9,none⟩ = some (.slice A0_9 l0_9.length c0_9) := (blk_cell BK288.out 9).trans rfl
        have hcz34_10 : wc.cell? ⟨gb288,10,none⟩ = some (.int .i64 a0_10) := (blk_cell BK288.out 10).trans rfl
        have hcz34_11 : wc.cell? ⟨gb288,11,none⟩ = some (.int .i64 a0_11) := (blk_cell BK288.out 11).trans rfl
        have hcz34_12 : wc.cell? ⟨gb288,12,none⟩ = some (.int .i64 a0_12) := (blk_cell BK288.out 12).trans rfl
        have hcz34_13 : wc.cell? ⟨gb288,13,none⟩ = some (.int .i64 a0_13) := (blk_cell BK288.out 13).trans rfl
        have hcz34_14 : wc.cell? ⟨gb288,14,none⟩ = some (.int .i64 a0_14) := (blk_cell BK288.out 14).trans rfl
        have hcz34_15 : wc.cell? ⟨gb288,15,none⟩ = some (.int .i64 a0_15) := (blk_cell BK288.out 15).trans rfl
        have hfz34_0 := blk_frozen BK288.out 0
        have hfz34_1 := blk_frozen BK288.out 1
        have hfz34_2 := blk_frozen BK288.out 2
        have hfz34_3 := blk_frozen BK288.out 3
        have hfz34_4 := blk_frozen BK288.out 4
        have hfz34_5 := blk_frozen BK288.out 5
        have hfz34_6 := blk_frozen BK288.out 6
        have hfz34_7 := blk_frozen BK288.out 7
        have hfz34_8 := blk_frozen BK288.out 8
        have hfz34_9 := blk_frozen BK288.out 9
        have hfz34_10 := blk_frozen BK288.out 10
        have hfz34_11 := blk_frozen BK288.out 11
        have hfz34_12 := blk_frozen BK288.out 12
        have hfz34_13 := blk_frozen BK288.out 13
        have hfz34_14 := blk_frozen BK288.out 14
        have hfz34_15 := blk_frozen BK288.out 15
        go_wp2_with (first | ((with_reducible refine gate_callee (f:=54) rfl ?_); refine goesL_ (some 31) rfl rfl Tryd.func54 (by kernel_rfl) rfl #[.int .i64 a0_1,.int .i64 4,.int .i64 6] rfl mA ?_; (with_reducible refine (impl_within.calls a0_1 4 6 true _ A18.out).mono ?_); rintro e w' ⟨rfl,⟨nd,rfl⟩⟩; refine ⟨_,rfl,?_⟩) | (go_at_call 55; (with_reducible refine (impl_RecordOK.calls kj1 a0_3 a0_4 a0_5 a0_6 a0_7 a0_8 true _ ?side1 A20.out).mono ?_); (case side1 => exact HV.out.below bA); rintro e w35 ⟨rfl,hb⟩; have n0_ := Aside0.mk (blk_below (g:=gb288) (o:=.cells #[.int .i64 a0_0,.int .i64 a0_1,.int .i64 a0_2,.int .i64 a0_3,.int .i64 a0_4,.int .i64 a0_5,.int .i64 a0_6,.int .i64 a0_7,.string a0_8,.slice A0_9 l0_9.length c0_9,.int .i64 a0_10,.int .i64 a0_11,.int .i64 a0_12,.int .i64 a0_13,.int .i64 a0_14,.int .i64 a0_15] 51 (0,0)) (kA BK288.out) hb); have n1_ := Aside0.mk (below_step bA hb); clear BK288; clear HB; have BK288 := n0_; have HB := n1_; clear n0_ n1_; (try clear hb); (try clear hb2); (try clear hk); (try clear hi); have hcz36_0 : w35.cell? ⟨gb288,0,none⟩ = some (.int .i64 a0_0) := (blk_cell BK288.out 0).trans rfl; have hcz36_1 : w35.cell? ⟨gb288,1,none⟩ = some (.int .i64 a0_1) := (blk_cell BK288.out 1).trans rfl; have hcz36_2 : w35.cell? ⟨gb288,2,none⟩ = some (.int .i64 a0_2) := (blk_cell BK288.out 2).trans rfl; have hcz36_3 : w35.cell? ⟨gb288,3,none⟩ = some (.int .i64 a0_3) := (blk_cell BK288.out 3).trans rfl; have hcz36_4 : w35.cell? ⟨gb288,4,none⟩ = some (.int .i64 a0_4) := (blk_cell BK288.out 4).trans rfl; have hcz36_5 : w35.cell? ⟨gb288,5,none⟩ = some (.int .i64 a0_5) := (blk_cell BK288.out 5).trans rfl; have hcz36_6 : w35.cell? ⟨gb288,6,none⟩ = some (.int .i64 a0_6) := (blk_cell BK288.out 6).trans rfl; have hcz36_7 : w35.cell? ⟨gb288,7,none⟩ = some (.int .i64 a0_7) := (blk_cell BK288.out 7).trans rfl; have hcz36_8 : w35.cell? ⟨gb288,8,none⟩ = some (.string a0_8) := (blk_cell BK288.out 8).trans rfl; have hcz36_9 : w35.cell? ⟨gb288,9,none⟩ = some (.slice A0_9 l0_9.length c0_9) := (blk_cell BK288.out 9).trans rfl; have hcz36_10 : w35.cell? ⟨gb288,10,none⟩ = some (.int .i64 a0_10) := (blk_cell BK288.out 10).trans rfl; have hcz36_11 : w35.cell? ⟨gb288,11,none⟩ = some (.int .i64 a0_11) := (blk_cell BK288.out 11).trans rfl; have hcz36_12 : w35.cell? ⟨gb288,12,none⟩ = some (.int .i64 a0_12) := (blk_cell BK288.out 12).trans rfl; have hcz36_13 : w35.cell? ⟨gb288,13,none⟩ = some (.int .i64 a0_13) := (blk_cell BK288.out 13).trans rfl; have hcz36_14 : w35.cell? ⟨gb288,14,none⟩ = some (.int .i64 a0_14) := (blk_cell BK288.out 14).trans rfl; have hcz36_15 : w35.cell? ⟨gb288,15,none⟩ = some (.int .i64 a0_15) := (blk_cell BK288.out 15).trans rfl; have hfz36_0 := blk_frozen BK288.out 0; have hfz36_1 := blk_frozen BK288.out 1; have hfz36_2 := blk_frozen BK288.out 2; have hfz36_3 := blk_frozen BK288.out 3; have hfz36_4 := blk_frozen BK288.out 4; have hfz36_5 := blk_frozen BK288.out 5; have hfz36_6 := blk_frozen BK288.out 6; have hfz36_7 := blk_frozen BK288.out 7; have hfz36_8 := blk_frozen BK288.out 8; have hfz36_9 := blk_frozen BK288.out 9; have hfz36_10 := blk_frozen BK288.out 10; have hfz36_11 := blk_frozen BK288.out 11; have hfz36_12 := blk_frozen BK288.out 12; have hfz36_13 := blk_frozen BK288.out 13; have hfz36_14 := blk_frozen BK288.out 14; have hfz36_15 := blk_frozen BK288.out 15))
        go_meet
        case rel => exact ⟨_,(!false),(by first | rfl | (simp; done) | (simp [*]; done)),H',⟨by have := HJ1.out; first | omega | exact Nat.le_refl _⟩,⟨kA BK288.out⟩,⟨bA⟩⟩
      ·replace c21 := Bool.eq_false_iff.mpr c21
       subst c21
       rw [if_neg (show ¬ (false = true) by decide)] at H
       have H' := Aside0.mk H
       clear H
       have hcz37_0 : wc.cell? ⟨gb288,0,none⟩ = some (.int .i64 a0_0) := (blk_cell BK288.out 0).trans rfl
       have hcz37_1 : wc.cell? ⟨gb288,1,none⟩ = some (.int .i64 a0_1) := (blk_cell BK288.out 1).trans rfl
       have hcz37_2 : wc.cell? ⟨gb288,2,none⟩ = some (.int .i64 a0_2) := (blk_cell BK288.out 2).trans rfl
       have hcz37_3 : wc.cell? ⟨gb288,3,none⟩ = some (.int .i64 a0_3) := (blk_cell BK288.out 3).trans rfl
       have hcz37_4 : wc.cell? ⟨gb288,4,none⟩ = some (.int .i64 a0_4) := (blk_cell BK288.out 4).trans rfl
       have hcz37_5 : wc.cell? ⟨gb288,5,none⟩ = some (.int .i64 a0_5) := (blk_cell BK288.out 5).trans rfl
       have hcz37_6 : wc.cell? ⟨gb288,6,none⟩ = some (.int .i64 a0_6) := (blk_cell BK288.out 6).trans rfl
       have hcz37_7 : wc.cell? ⟨gb288,7,none⟩ = some (.int .i64 a0_7) := (blk_cell BK288.out 7).trans rfl
       have hcz37_8 : wc.cell? ⟨gb288,8,none⟩ = some (.string a0_8) := (blk_cell BK288.out 8).trans rfl
       have hcz37_9 : wc.cell? ⟨gb288,9,none⟩ = some (.slice A0_9 l0_9.length c0_9) := (blk_cell BK288.out 9).trans rfl
       have hcz37_10 : wc.cell? ⟨gb288,10,none⟩ = some (.int .i64 a0_10) := (blk_cell BK288.out 10).trans rfl
       have hcz37_11 : wc.cell? ⟨gb288,11,none⟩ = some (.int .i64 a0_11) := (blk_cell BK288.out 11).trans rfl
       have hcz37_12 : wc.cell? ⟨gb288,12,none⟩ = some (.int .i64 a0_12) := (blk_cell BK288.out 12).trans rfl
       have hcz37_13 : wc.cell? ⟨gb288,13,none⟩ = some (.int .i64 a0_13) := (blk_cell BK288.out 13).trans rfl
       have hcz37_14 : wc.cell? ⟨gb288,14,none⟩ = some (.int .i64 a0_14) := (blk_cell BK288.out 14).trans rfl
       have hcz37_15 : wc.cell? ⟨gb288,15,none⟩ = some (.int .i64 a0_15) := (blk_cell BK288.out 15).trans rfl
       have hfz37_0 := blk_frozen BK288.out 0
       have hfz37_1 := blk_frozen BK288.out 1
       have hfz37_2 := blk_frozen BK288.out 2
       have hfz37_3 := blk_frozen BK288.out 3
       have hfz37_4 := blk_frozen BK288.out 4
       have hfz37_5 := blk_frozen BK288.out 5
       have hfz37_6 := blk_frozen BK288.out 6
       have hfz37_7 := blk_frozen BK288.out 7
       have hfz37_8 := blk_frozen BK288.out 8
       have hfz37_9 := blk_frozen BK288.out 9
       have hfz37_10 := blk_frozen BK288.out 10
       have hfz37_11 := blk_frozen BK288.out 11
       have hfz37_12 := blk_frozen BK288.out 12
       have hfz37_13 := blk_frozen BK288.out 13
       have hfz37_14 := blk_frozen BK288.out 14
       have hfz37_15 := blk_frozen BK288.out 15
       go_wp2_with (first | ((with_reducible refine gate_callee (f:=54) rfl ?_); refine goesL_ (some 31) rfl rfl Tryd.func54 (by kernel_rfl) rfl #[.int .i64 a0_1,.int .i64 4,.int .i64 6] rfl mA ?_; (with_reducible refine (impl_within.calls a0_1 4 6 true _ A18.out).mono ?_); rintro e w' ⟨rfl,⟨nd,rfl⟩⟩; refine ⟨_,rfl,?_⟩) | (go_at_call 55; (with_reducible refine (impl_RecordOK.calls kj1 a0_3 a0_4 a0_5 a0_6 a0_7 a0_8 false _ ?side1 A20.out).mono ?_); (case side1 => exact HV.out.below bA); rintro e w38 ⟨rfl,hb⟩; have n0_ := Aside0.mk (blk_below (g:=gb288) (o:=.cells #[.int .i64 a0_0,.int .i64 a0_1,.int .i64 a0_2,.int .i64 a0_3,.int .i64 a0_4,.int .i64 a0_5,.int .i64 a0_6,.int .i64 a0_7,.string a0_8,.slice A0_9 l0_9.length c0_9,.int .i64 a0_10,.int .i64 a0_11,.int .i64 a0_12,.int .i64 a0_13,.int .i64 a0_14,.int .i64 a0_15] 51 (0,0)) (kA BK288.out) hb); have n1_ := Aside0.mk (below_step bA hb); clear BK288; clear HB; have BK288 := n0_; have HB := n1_; clear n0_ n1_; (try clear hb); (try clear hb2); (try clear hk); (try clear hi)))
       go_meet
       case rel => exact ⟨_,(!false),(by first | rfl | (simp; done) | (simp [*]; done)),H',⟨by have := HJ1.out; first | omega | exact Nat.le_refl _⟩,⟨kA BK288.out⟩,⟨bA⟩⟩
     ·replace c19 := Bool.eq_false_iff.mpr c19
      subst c19
      rw [if_neg (show ¬ (false = true) by decide)] at H
      have H' := Aside0.mk H
      clear H
      have hcz39_0 : wc.cell? ⟨gb288,0,none⟩ = some (.int .i64 a0_0) := (blk_cell BK288.out 0).trans rfl
      have hcz39_1 : wc.cell? ⟨gb288,1,none⟩ = some (.int .i64 a0_1) := (blk_cell BK288.out 1).trans rfl
      have hcz39_2 : wc.cell? ⟨gb288,2,none⟩ = some (.int .i64 a0_2) := (blk_cell BK288.out 2).trans rfl
      have hcz39_3 : wc.cell? ⟨gb288,3,none⟩ = some (.int .i64 a0_3) := (blk_cell BK288.out 3).trans rfl
      have hcz39_4 : wc.cell? ⟨gb288,4,none⟩ = some (.int .i64 a0_4) := (blk_cell BK288.out 4).trans rfl
      have hcz39_5 : wc.cell? ⟨gb288,5,none⟩ = some (.int .i64 a0_5) := (blk_cell BK288.out 5).trans rfl
      have hcz39_6 : wc.cell? ⟨gb288,6,none⟩ = some (.int .i64 a0_6) := (blk_cell BK288.out 6).trans rfl
      have hcz39_7 : wc.cell? ⟨gb288,7,none⟩ = some (.int .i64 a0_7) := (blk_cell BK288.out 7).trans rfl
      have hcz39_8 : wc.cell? ⟨gb288,8,none⟩ = some (.string a0_8) := (blk_cell BK288.out 8).trans rfl
      have hcz39_9 : wc.cell? ⟨gb288,9,none⟩ = some (.slice A0_9 l0_9.length c0_9) := (blk_cell BK288.out 9).trans rfl
      have hcz39_10 : wc.cell? ⟨gb288,10,none⟩ = some (.int .i64 a0_10) := (blk_cell BK288.out 10).trans rfl
      have hcz39_11 : wc.cell? ⟨gb288,11,none⟩ = some (.int .i64 a0_11) := (blk_cell BK288.out 11).trans rfl
      have hcz39_12 : wc.cell? ⟨gb288,12,none⟩ = some (.int .i64 a0_12) := (blk_cell BK288.out 12).trans rfl
      have hcz39_13 : wc.cell? ⟨gb288,13,none⟩ = some (.int .i64 a0_13) := (blk_cell BK288.out 13).trans rfl
      have hcz39_14 : wc.cell? ⟨gb288,14,none⟩ = some (.int .i64 a0_14) := (blk_cell BK288.out 14).trans rfl
      have hcz39_15 : wc.cell? ⟨gb288,15,none⟩ = some (.int .i64 a0_15) := (blk_cell BK288.out 15).trans rfl
      have hfz39_0 := blk_frozen BK288.out 0
      have hfz39_1 := blk_frozen BK288.out 1
      have hfz39_2 := blk_frozen BK288.out 2
      have hfz39_3 := blk_frozen BK288.out 3
      have hfz39_4 := blk_frozen BK288.out 4
      have hfz39_5 := blk_frozen BK288.out 5
      have hfz39_6 := blk_frozen BK288.out 6
      have hfz39_7 := blk_frozen BK288.out 7
      have hfz39_8 := blk_frozen BK288.out 8
      have hfz39_9 := blk_frozen BK288.out 9
      have hfz39_10 := blk_frozen BK288.out 10
      have hfz39_11 := blk_frozen BK288.out 11
      have hfz39_12 := blk_frozen BK288.out 12
      have hfz39_13 := blk_frozen BK288.out 13
      have hfz39_14 := blk_frozen BK288.out 14
      have hfz39_15 := blk_frozen BK288.out 15
      go_wp2_with (first | ((with_reducible refine gate_callee (f:=54) rfl ?_); refine goesL_ (some 31) rfl rfl Tryd.func54 (by kernel_rfl) rfl #[.int .i64 a0_1,.int .i64 4,.int .i64 6] rfl mA ?_; (with_reducible refine (impl_within.calls a0_1 4 6 false _ A18.out).mono ?_); rintro e w' ⟨rfl,⟨nd,rfl⟩⟩; refine ⟨_,rfl,?_⟩))
      go_meet
      case rel => exact ⟨_,(false),(by first | rfl | (simp; done) | (simp [*]; done)),H',⟨by have := HJ1.out; first | omega | exact Nat.le_refl _⟩,⟨kA BK288.out⟩,⟨bA⟩⟩
    case rest =>
     clear HC17
     try clear c1
     try clear c2
     try clear p2
     try clear c5
     try clear c7
     try clear c9
     try clear c10
     try clear c10b0
     try clear c16
     try clear c19
     try clear c21
     try clear c22
     try clear c22b0
     try clear c22b1
     try clear c23
     try clear c23b0
     try clear c23b1
     try clear c27
     try clear c27b0
     try clear c27b1
     try clear hcz11_0
     try clear hcz11_1
     try clear hcz11_10
     try clear hcz11_11
     try clear hcz11_12
     try clear hcz11_13
     try clear hcz11_14
     try clear hcz11_15
     try clear hcz11_2
     try clear hcz11_3
     try clear hcz11_4
     try clear hcz11_5
     try clear hcz11_6
     try clear hcz11_7
     try clear hcz11_8
     try clear hcz11_9
     try clear hcz12_0
     try clear hcz12_1
     try clear hcz12_10
     try clear hcz12_11
     try clear hcz12_12
     try clear hcz12_13
     try clear hcz12_14
     try clear hcz12_15
     try clear hcz12_2
     try clear hcz12_3
     try clear hcz12_4
     try clear hcz12_5
     try clear hcz12_6
     try clear hcz12_7
     try clear hcz12_8
     try clear hcz12_9
     try clear hcz13_0
     try clear hcz13_1
     try clear hcz13_10
     try clear hcz13_11
     try clear hcz13_12
     try clear hcz13_13
     try clear hcz13_14
     try clear hcz13_15
     try clear hcz13_2
     try clear hcz13_3
     try clear hcz13_4
     try clear hcz13_5
     try clear hcz13_6
     try clear hcz13_7
     try clear hcz13_8
     try clear hcz13_9
     try clear hcz14_0
     try clear hcz14_1
     try clear hcz14_10
     try clear hcz14_11
     try clear hcz14_12
     try clear hcz14_13
     try clear hcz14_14
     try clear hcz14_15
     try clear hcz14_2
     try clear hcz14_3
     try clear hcz14_4
     try clear hcz14_5
     try clear hcz14_6
     try clear hcz14_7
     try clear hcz14_8
     try clear hcz14_9
     try clear hcz15_0
     try clear hcz15_1
     try clear hcz15_10
     try clear hcz15_11
     try clear hcz15_12
     try clear hcz15_13
     try clear hcz15_14
     try clear hcz15_15
     try clear hcz15_2
     try clear hcz15_3
     try clear hcz15_4
     try clear hcz15_5
     try clear hcz15_6
     try clear hcz15_7
     try clear hcz15_8
     try clear hcz15_9
     try clear hcz24_0
     try clear hcz24_1
     try clear hcz24_10
     try clear hcz24_11
     try clear hcz24_12
     try clear hcz24_13
     try clear hcz24_14
     try clear hcz24_15
     try clear hcz24_2
     try clear hcz24_3
     try clear hcz24_4
     try clear hcz24_5
     try clear hcz24_6
     try clear hcz24_7
     try clear hcz24_8
     try clear hcz24_9
     try clear hcz26_0
     try clear hcz26_1
     try clear hcz26_10
     try clear hcz26_11
     try clear hcz26_12
     try clear hcz26_13
     try clear hcz26_14
     try clear hcz26_15
     try clear hcz26_2
     try clear hcz26_3
     try clear hcz26_4
     try clear hcz26_5
     try clear hcz26_6
     try clear hcz26_7
     try clear hcz26_8
     try clear hcz26_9
     try clear hcz28_0
     try clear hcz28_1
     try clear hcz28_10
     try clear hcz28_11
     try clear hcz28_12
     try clear hcz28_13
     try clear hcz28_14
     try clear hcz28_15
     try clear hcz28_2
     try clear hcz28_3
     try clear hcz28_4
     try clear hcz28_5
     try clear hcz28_6
     try clear hcz28_7
     try clear hcz28_8
     try clear hcz28_9
     try clear hcz30_0
     try clear hcz30_1
     try clear hcz30_10
     try clear hcz30_11
     try clear hcz30_12
     try clear hcz30_13
     try clear hcz30_14
     try clear hcz30_15
     try clear hcz30_2
     try clear hcz30_3
     try clear hcz30_4
     try clear hcz30_5
     try clear hcz30_6
     try clear hcz30_7
     try clear hcz30_8
     try clear hcz30_9
     try clear hcz31_0
     try clear hcz31_1
     try clear hcz31_10
     try clear hcz31_11
     try clear hcz31_12
     try clear hcz31_13
     try clear hcz31_14
     try clear hcz31_15
     try clear hcz31_2
     try clear hcz31_3
     try clear hcz31_4
     try clear hcz31_5
     try clear hcz31_6
     try clear hcz31_7
     try clear hcz31_8
     try clear hcz31_9
     try clear hcz33_0
     try clear hcz33_1
     try clear hcz33_10
     try clear hcz33_11
     try clear hcz33_12
     try clear hcz33_13
     try clear hcz33_14
     try clear hcz33_15
     try clear hcz33_2
     try clear hcz33_3
     try clear hcz33_4
     try clear hcz33_5
     try clear hcz33_6
     try clear hcz33_7
     try clear hcz33_8
     try clear hcz33_9
     try clear hcz34_0
     try clear hcz34_1
     try clear hcz34_10
     try clear hcz34_11
     try clear hcz34_12
     try clear hcz34_13
     try clear hcz34_14
     try clear hcz34_15
     try clear hcz34_2
     try clear hcz34_3
     try clear hcz34_4
     try clear hcz34_5
     try clear hcz34_6
     try clear hcz34_7
     try clear hcz34_8
     try clear hcz34_9
     try clear hcz36_0
     try clear hcz36_1
     try clear hcz36_10
     try clear hcz36_11
     try clear hcz36_12
     try clear hcz36_13
     try clear hcz36_14
     try clear hcz36_15
     try clear hcz36_2
     try clear hcz36_3
     try clear hcz36_4
     try clear hcz36_5
     try clear hcz36_6
     try clear hcz36_7
     try clear hcz36_8
     try clear hcz36_9
     try clear hcz37_0
     try clear hcz37_1
     try clear hcz37_10
     try clear hcz37_11
     try clear hcz37_12
     try clear hcz37_13
     try clear hcz37_14
     try clear hcz37_15
     try clear hcz37_2
     try clear hcz37_3
     try clear hcz37_4
     try clear hcz37_5
     try clear hcz37_6
     try clear hcz37_7
     try clear hcz37_8
     try clear hcz37_9
     try clear hcz39_0
     try clear hcz39_1
     try clear hcz39_10
     try clear hcz39_11
     try clear hcz39_12
     try clear hcz39_13
     try clear hcz39_14
     try clear hcz39_15
     try clear hcz39_2
     try clear hcz39_3
     try clear hcz39_4
     try clear hcz39_5
     try clear hcz39_6
     try clear hcz39_7
     try clear hcz39_8
     try clear hcz39_9
     try clear hfz11_0
     try clear hfz11_1
     try clear hfz11_10
     try clear hfz11_11
     try clear hfz11_12
     try clear hfz11_13
     try clear hfz11_14
     try clear hfz11_15
     try clear hfz11_2
     try clear hfz11_3
     try clear hfz11_4
     try clear hfz11_5
     try clear hfz11_6
     try clear hfz11_7
     try clear hfz11_8
     try clear hfz11_9
     try clear hfz12_0
     try clear hfz12_1
     try clear hfz12_10
     try clear hfz12_11
     try clear hfz12_12
     try clear hfz12_13
     try clear hfz12_14
     try clear hfz12_15
     try clear hfz12_2
     try clear hfz12_3
     try clear hfz12_4
     try clear hfz12_5
     try clear hfz12_6
     try clear hfz12_7
     try clear hfz12_8
     try clear hfz12_9
     try clear hfz13_0
     try clear hfz13_1
     try clear hfz13_10
     try clear hfz13_11
     try clear hfz13_12
     try clear hfz13_13
     try clear hfz13_14
     try clear hfz13_15
     try clear hfz13_2
     try clear hfz13_3
     try clear hfz13_4
     try clear hfz13_5
     try clear hfz13_6
     try clear hfz13_7
     try clear hfz13_8
     try clear hfz13_9
     try clear hfz14_0
     try clear hfz14_1
     try clear hfz14_10
     try clear hfz14_11
     try clear hfz14_12
     try clear hfz14_13
     try clear hfz14_14
     try clear hfz14_15
     try clear hfz14_2
     try clear hfz14_3
     try clear hfz14_4
     try clear hfz14_5
     try clear hfz14_6
     try clear hfz14_7
     try clear hfz14_8
     try clear hfz14_9
     try clear hfz15_0
     try clear hfz15_1
     try clear hfz15_10
     try clear hfz15_11
     try clear hfz15_12
     try clear hfz15_13
     try clear hfz15_14
     try clear hfz15_15
     try clear hfz15_2
     try clear hfz15_3
     try clear hfz15_4
     try clear hfz15_5
     try clear hfz15_6
     try clear hfz15_7
     try clear hfz15_8
     try clear hfz15_9
     try clear hfz24_0
     try clear hfz24_1
     try clear hfz24_10
     try clear hfz24_11
     try clear hfz24_12
     try clear hfz24_13
     try clear hfz24_14
     try clear hfz24_15
     try clear hfz24_2
     try clear hfz24_3
     try clear hfz24_4
     try clear hfz24_5
     try clear hfz24_6
     try clear hfz24_7
     try clear hfz24_8
     try clear hfz24_9
     try clear hfz26_0
     try clear hfz26_1
     try clear hfz26_10
     try clear hfz26_11
     try clear hfz26_12
     try clear hfz26_13
     try clear hfz26_14
     try clear hfz26_15
     try clear hfz26_2
     try clear hfz26_3
     try clear hfz26_4
     try clear hfz26_5
     try clear hfz26_6
     try clear hfz26_7
     try clear hfz26_8
     try clear hfz26_9
     try clear hfz28_0
     try clear hfz28_1
     try clear hfz28_10
     try clear hfz28_11
     try clear hfz28_12
     try clear hfz28_13
     try clear hfz28_14
     try clear hfz28_15
     try clear hfz28_2
     try clear hfz28_3
     try clear hfz28_4
     try clear hfz28_5
     try clear hfz28_6
     try clear hfz28_7
     try clear hfz28_8
     try clear hfz28_9
     try clear hfz30_0
     try clear hfz30_1
     try clear hfz30_10
     try clear hfz30_11
     try clear hfz30_12
     try clear hfz30_13
     try clear hfz30_14
     try clear hfz30_15
     try clear hfz30_2
     try clear hfz30_3
     try clear hfz30_4
     try clear hfz30_5
     try clear hfz30_6
     try clear hfz30_7
     try clear hfz30_8
     try clear hfz30_9
     try clear hfz31_0
     try clear hfz31_1
     try clear hfz31_10
     try clear hfz31_11
     try clear hfz31_12
     try clear hfz31_13
     try clear hfz31_14
     try clear hfz31_15
     try clear hfz31_2
     try clear hfz31_3
     try clear hfz31_4
     try clear hfz31_5
     try clear hfz31_6
     try clear hfz31_7
     try clear hfz31_8
     try clear hfz31_9
     try clear hfz33_0
     try clear hfz33_1
     try clear hfz33_10
     try clear hfz33_11
     try clear hfz33_12
     try clear hfz33_13
     try clear hfz33_14
     try clear hfz33_15
     try clear hfz33_2
     try clear hfz33_3
     try clear hfz33_4
     try clear hfz33_5
     try clear hfz33_6
     try clear hfz33_7
     try clear hfz33_8
     try clear hfz33_9
     try clear hfz34_0
     try clear hfz34_1
     try clear hfz34_10
     try clear hfz34_11
     try clear hfz34_12
     try clear hfz34_13
     try clear hfz34_14
     try clear hfz34_15
     try clear hfz34_2
     try clear hfz34_3
     try clear hfz34_4
     try clear hfz34_5
     try clear hfz34_6
     try clear hfz34_7
     try clear hfz34_8
     try clear hfz34_9
     try clear hfz36_0
     try clear hfz36_1
     try clear hfz36_10
     try clear hfz36_11
     try clear hfz36_12
     try clear hfz36_13
     try clear hfz36_14
     try clear hfz36_15
     try clear hfz36_2
     try clear hfz36_3
     try clear hfz36_4
     try clear hfz36_5
     try clear hfz36_6
     try clear hfz36_7
     try clear hfz36_8
     try clear hfz36_9
     try clear hfz37_0
     try clear hfz37_1
     try clear hfz37_10
     try clear hfz37_11
     try clear hfz37_12
     try clear hfz37_13
     try clear hfz37_14
     try clear hfz37_15
     try clear hfz37_2
     try clear hfz37_3
     try clear hfz37_4
     try clear hfz37_5
     try clear hfz37_6
     try clear hfz37_7
     try clear hfz37_8
     try clear hfz37_9
     try clear hfz39_0
     try clear hfz39_1
     try clear hfz39_10
     try clear hfz39_11
     try clear hfz39_12
     try clear hfz39_13
     try clear hfz39_14
     try clear hfz39_15
     try clear hfz39_2
     try clear hfz39_3
     try clear hfz39_4
     try clear hfz39_5
     try clear hfz39_6
     try clear hfz39_7
     try clear hfz39_8
     try clear hfz39_9
     try clear p2
     obtain ⟨kq,x62_16,rfl,HA,HJ16,BK288,HB⟩ := hcut
     cases kq with
     | zero => exact absurd HA.out (by simp [impl_WorkerOK.j1])
     | succ kj16 =>
      have H := HA.out
      clear HA
      simp only [impl_WorkerOK.j1] at H
      by_cases c40 : x62_16 = true
      ·subst c40
       rw [if_pos rfl] at H
       obtain rfl := Option.some.inj H
       go_wp2
       go_ret
       exact ⟨by first | rfl | (simp [errW_none,errW_some] <;> rfl) | (simp [*,errW_none,errW_some] <;> rfl),bA⟩
      ·replace c40 := Bool.eq_false_iff.mpr c40
       subst c40
       rw [if_neg (show ¬ (false = true) by decide)] at H
       by_cases c41 : (l0_9.length : Int) ≤ 300
       ·rw [if_pos c41] at H
        have c41b0 : decide ((l0_9.length : Int) ≤ 300) = true := decide_eq_true c41
        have c41b1 : decide (l0_9.length ≤ 300) = true := decide_eq_true (by omega)
        clear c41
        replace H := Option.bind_eq_some_iff.mp H
        obtain ⟨t294,A420,H⟩ := H
        try dsimp only at H
        have A42 := Aside0.mk A420
        clear A420
        by_cases c43 : t294 = true
        ·subst c43
         rw [if_pos rfl] at H
         replace H := Option.bind_eq_some_iff.mp H
         obtain ⟨t295,A440,H⟩ := H
         try dsimp only at H
         have A44 := Aside0.mk A440
         clear A440
         obtain rfl := Option.some.inj H
         have hcz45_0 : wc.cell? ⟨gb288,0,none⟩ = some (.int .i64 a0_0) := (blk_cell BK288.out 0).trans rfl
         have hcz45_1 : wc.cell? ⟨gb288,1,none⟩ = some (.int .i64 a0_1) := (blk_cell BK288.out 1).trans rfl
         have hcz45_2 : wc.cell? ⟨gb288,2,none⟩ = some (.int .i64 a0_2) := (blk_cell BK288.out 2).trans rfl
         have hcz45_3 : wc.cell? ⟨gb288,3,none⟩ = some (.int .i64 a0_3) := (blk_cell BK288.out 3).trans rfl
         have hcz45_4 : wc.cell? ⟨gb288,4,none⟩ = some (.int .i64 a0_4) := (blk_cell BK288.out 4).trans rfl
         have hcz45_5 : wc.cell? ⟨gb288,5,none⟩ = some (.int .i64 a0_5) := (blk_cell BK288.out 5).trans rfl
         have hcz45_6 : wc.cell? ⟨gb288,6,none⟩ = some (.int .i64 a0_6) := (blk_cell BK288.out 6).trans rfl
         have hcz45_7 : wc.cell? ⟨gb288,7,none⟩ = some (.int .i64 a0_7) := (blk_cell BK288.out 7).trans rfl
         have hcz45_8 : wc.cell? ⟨gb288,8,none⟩ = some (.string a0_8) := (blk_cell BK288.out 8).trans rfl
         have hcz45_9 : wc.cell? ⟨gb288,9,none⟩ = some (.slice A0_9 l0_9.length c0_9) := (blk_cell BK288.out 9).trans rfl
         have hcz45_10 : wc.cell? ⟨gb288,10,none⟩ = some (.int .i64 a0_10) := (blk_cell BK288.out 10).trans rfl
         have hcz45_11 : wc.cell? ⟨gb288,11,none⟩ = some (.int .i64 a0_11) := (blk_cell BK288.out 11).trans rfl
         have hcz45_12 : wc.cell? ⟨gb288,12,none⟩ = some (.int .i64 a0_12) := (blk_cell BK288.out 12).trans rfl
         have hcz45_13 : wc.cell? ⟨gb288,13,none⟩ = some (.int .i64 a0_13) := (blk_cell BK288.out 13).trans rfl
         have hcz45_14 : wc.cell? ⟨gb288,14,none⟩ = some (.int .i64 a0_14) := (blk_cell BK288.out 14).trans rfl
         have hcz45_15 : wc.cell? ⟨gb288,15,none⟩ = some (.int .i64 a0_15) := (blk_cell BK288.out 15).trans rfl
         have hfz45_0 := blk_frozen BK288.out 0
         have hfz45_1 := blk_frozen BK288.out 1
         have hfz45_2 := blk_frozen BK288.out 2
         have hfz45_3 := blk_frozen BK288.out 3
         have hfz45_4 := blk_frozen BK288.out 4
         have hfz45_5 := blk_frozen BK288.out 5
         have hfz45_6 := blk_frozen BK288.out 6
         have hfz45_7 := blk_frozen BK288.out 7
         have hfz45_8 := blk_frozen BK288.out 8
         have hfz45_9 := blk_frozen BK288.out 9
         have hfz45_10 := blk_frozen BK288.out 10
         have hfz45_11 := blk_frozen BK288.out 11
         have hfz45_12 := blk_frozen BK288.out 12
         have hfz45_13 := blk_frozen BK288.out 13
         have hfz45_14 := blk_frozen BK288.out 14
         have hfz45_15 := blk_frozen BK288.out 15
         go_wp2_with (first | (go_at_call 56; (with_reducible refine (impl_Entry.calls kj16 _ _ l0_9 true _ ?side1 ?side2 ?side3 A42.out).mono ?_); (case side1 => exact HV.out.below bA); (case side2 => repeat (first | exact (Kd.C_below HR0_9.out HB.out) | (with_reducible refine Kd.C_alloc ?_ _) | (with_reducible refine Kd.C_drewN ?_ _) | (with_reducible refine Kd.C_drew ?_))); (case side3 => exact HC0_9.out); rintro e w46 ⟨rfl,hb⟩; have n0_ := Aside0.mk (blk_below (g:=gb288) (o:=.cells #[.int .i64 a0_0,.int .i64 a0_1,.int .i64 a0_2,.int .i64 a0_3,.int .i64 a0_4,.int .i64 a0_5,.int .i64 a0_6,.int .i64 a0_7,.string a0_8,.slice A0_9 l0_9.length c0_9,.int .i64 a0_10,.int .i64 a0_11,.int .i64 a0_12,.int .i64 a0_13,.int .i64 a0_14,.int .i64 a0_15] 51 (0,0)) (kA BK288.out) hb); have n1_ := Aside0.mk (below_step bA hb); clear BK288; clear HB; have BK288 := n0_; have HB := n1_; clear n0_ n1_; (try clear hb); (try clear hb2); (try clear hk); (try clear hi); have hcz47_0 : w46.cell? ⟨gb288,0,none⟩ = some (.int .i64 a0_0) := (blk_cell BK288.out 0).trans rfl; have hcz47_1 : w46.cell? ⟨gb288,1,none⟩ = some (.int .i64 a0_1) := (blk_cell BK288.out 1).trans rfl; have hcz47_2 : w46.cell? ⟨gb288,2,none⟩ = some (.int .i64 a0_2) := (blk_cell BK288.out 2).trans rfl; have hcz47_3 : w46.cell? ⟨gb288,3,none⟩ = some (.int .i64 a0_3) := (blk_cell BK288.out 3).trans rfl; have hcz47_4 : w46.cell? ⟨gb288,4,none⟩ = some (.int .i64 a0_4) := (blk_cell BK288.out 4).trans rfl; have hcz47_5 : w46.cell? ⟨gb288,5,none⟩ = some (.int .i64 a0_5) := (blk_cell BK288.out 5).trans rfl; have hcz47_6 : w46.cell? ⟨gb288,6,none⟩ = some (.int .i64 a0_6) := (blk_cell BK288.out 6).trans rfl; have hcz47_7 : w46.cell? ⟨gb288,7,none⟩ = some (.int .i64 a0_7) := (blk_cell BK288.out 7).trans rfl; have hcz47_8 : w46.cell? ⟨gb288,8,none⟩ = some (.string a0_8) := (blk_cell BK288.out 8).trans rfl; have hcz47_9 : w46.cell? ⟨gb288,9,none⟩ = some (.slice A0_9 l0_9.length c0_9) := (blk_cell BK288.out 9).trans rfl; have hcz47_10 : w46.cell? ⟨gb288,10,none⟩ = some (.int .i64 a0_10) := (blk_cell BK288.out 10).trans rfl; have hcz47_11 : w46.cell? ⟨gb288,11,none⟩ = some (.int .i64 a0_11) := (blk_cell BK288.out 11).trans rfl; have hcz47_12 : w46.cell? ⟨gb288,12,none⟩ = some (.int .i64 a0_12) := (blk_cell BK288.out 12).trans rfl; have hcz47_13 : w46.cell? ⟨gb288,13,none⟩ = some (.int .i64 a0_13) := (blk_cell BK288.out 13).trans rfl; have hcz47_14 : w46.cell? ⟨gb288,14,none⟩ = some (.int .i64 a0_14) := (blk_cell BK288.out 14).trans rfl; have hcz47_15 : w46.cell? ⟨gb288,15,none⟩ = some (.int .i64 a0_15) := (blk_cell BK288.out 15).trans rfl; have hfz47_0 := blk_frozen BK288.out 0; have hfz47_1 := blk_frozen BK288.out 1; have hfz47_2 := blk_frozen BK288.out 2; have hfz47_3 := blk_frozen BK288.out 3; have hfz47_4 := blk_frozen BK288.out 4; have hfz47_5 := blk_frozen BK288.out 5; have hfz47_6 := blk_frozen BK288.out 6; have hfz47_7 := blk_frozen BK288.out 7; have hfz47_8 := blk_frozen BK288.out 8; have hfz47_9 := blk_frozen BK288.out 9; have hfz47_10 := blk_frozen BK288.out 10; have hfz47_11 := blk_frozen BK288.out 11; have hfz47_12 := blk_frozen BK288.out 12; have hfz47_13 := blk_frozen BK288.out 13; have hfz47_14 := blk_frozen BK288.out 14; have hfz47_15 := blk_frozen BK288.out 15) | (go_at_call 58; (with_reducible refine (impl_isGot.calls a0_10 a0_11 a0_12 a0_13 a0_14 a0_15 t295 _ A44.out).mono ?_); rintro e w48 ⟨rfl,hb⟩; have n0_ := Aside0.mk (blk_below (g:=gb288) (o:=.cells #[.int .i64 a0_0,.int .i64 a0_1,.int .i64 a0_2,.int .i64 a0_3,.int .i64 a0_4,.int .i64 a0_5,.int .i64 a0_6,.int .i64 a0_7,.string a0_8,.slice A0_9 l0_9.length c0_9,.int .i64 a0_10,.int .i64 a0_11,.int .i64 a0_12,.int .i64 a0_13,.int .i64 a0_14,.int .i64 a0_15] 51 (0,0)) (kA BK288.out) hb); have n1_ := Aside0.mk (below_step bA hb); clear BK288; clear HB; have BK288 := n0_; have HB := n1_; clear n0_ n1_; (try clear hb); (try clear hb2); (try clear hk); (try clear hi)))
         go_ret
         exact ⟨by first | rfl | (simp [errW_none,errW_some] <;> rfl) | (simp [*,errW_none,errW_some] <;> rfl),bA⟩
        ·replace c43 := Bool.eq_false_iff.mpr c43
         subst c43
         rw [if_neg (show ¬ (false = true) by decide)] at H
         obtain rfl := Option.some.inj H
         have hcz49_0 : wc.cell? ⟨gb288,0,none⟩ = some (.int .i64 a0_0) := (blk_cell BK288.out 0).trans rfl
         have hcz49_1 : wc.cell? ⟨gb288,1,none⟩ = some (.int .i64 a0_1) := (blk_cell BK288.out 1).trans rfl
         have hcz49_2 : wc.cell? ⟨gb288,2,none⟩ = some (.int .i64 a0_2) := (blk_cell BK288.out 2).trans rfl
         have hcz49_3 : wc.cell? ⟨gb288,3,none⟩ = some (.int .i64 a0_3) := (blk_cell BK288.out 3).trans rfl
         have hcz49_4 : wc.cell? ⟨gb288,4,none⟩ = some (.int .i64 a0_4) := (blk_cell BK288.out 4).trans rfl
         have hcz49_5 : wc.cell? ⟨gb288,5,none⟩ = some (.int .i64 a0_5) := (blk_cell BK288.out 5).trans rfl
         have hcz49_6 : wc.cell? ⟨gb288,6,none⟩ = some (.int .i64 a0_6) := (blk_cell BK288.out 6).trans rfl
         have hcz49_7 : wc.cell? ⟨gb288,7,none⟩ = some (.int .i64 a0_7) := (blk_cell BK288.out 7).trans rfl
         have hcz49_8 : wc.cell? ⟨gb288,8,none⟩ = some (.string a0_8) := (blk_cell BK288.out 8).trans rfl
         have hcz49_9 : wc.cell? ⟨gb288,9,none⟩ = some (.slice A0_9 l0_9.length c0_9) := (blk_cell BK288.out 9).trans rfl
         have hcz49_10 : wc.cell? ⟨gb288,10,none⟩ = some (.int .i64 a0_10) := (blk_cell BK288.out 10).trans rfl
         have hcz49_11 : wc.cell? ⟨gb288,11,none⟩ = some (.int .i64 a0_11) := (blk_cell BK288.out 11).trans rfl
         have hcz49_12 : wc.cell? ⟨gb288,12,none⟩ = some (.int .i64 a0_12) := (blk_cell BK288.out 12).trans rfl
         have hcz49_13 : wc.cell? ⟨gb288,13,none⟩ = some (.int .i64 a0_13) := (blk_cell BK288.out 13).trans rfl
         have hcz49_14 : wc.cell? ⟨gb288,14,none⟩ = some (.int .i64 a0_14) := (blk_cell BK288.out 14).trans rfl
         have hcz49_15 : wc.cell? ⟨gb288,15,none⟩ = some (.int .i64 a0_15) := (blk_cell BK288.out 15).trans rfl
         have hfz49_0 := blk_frozen BK288.out 0
         have hfz49_1 := blk_frozen BK288.out 1
         have hfz49_2 := blk_frozen BK288.out 2
         have hfz49_3 := blk_frozen BK288.out 3
         have hfz49_4 := blk_frozen BK288.out 4
         have hfz49_5 := blk_frozen BK288.out 5
         have hfz49_6 := blk_frozen BK288.out 6
         have hfz49_7 := blk_frozen BK288.out 7
         have hfz49_8 := blk_frozen BK288.out 8
         have hfz49_9 := blk_frozen BK288.out 9
         have hfz49_10 := blk_frozen BK288.out 10
         have hfz49_11 := blk_frozen BK288.out 11
         have hfz49_12 := blk_frozen BK288.out 12
         have hfz49_13 := blk_frozen BK288.out 13
         have hfz49_14 := blk_frozen BK288.out 14
         have hfz49_15 := blk_frozen BK288.out 15
         go_wp2_with (first | (go_at_call 56; (with_reducible refine (impl_Entry.calls kj16 _ _ l0_9 false _ ?side1 ?side2 ?side3 A42.out).mono ?_); (case side1 => exact HV.out.below bA); (case side2 => repeat (first | exact (Kd.C_below HR0_9.out HB.out) | (with_reducible refine Kd.C_alloc ?_ _) | (with_reducible refine Kd.C_drewN ?_ _) | (with_reducible refine Kd.C_drew ?_))); (case side3 => exact HC0_9.out); rintro e w50 ⟨rfl,hb⟩; have n0_ := Aside0.mk (blk_below (g:=gb288) (o:=.cells #[.int .i64 a0_0,.int .i64 a0_1,.int .i64 a0_2,.int .i64 a0_3,.int .i64 a0_4,.int .i64 a0_5,.int .i64 a0_6,.int .i64 a0_7,.string a0_8,.slice A0_9 l0_9.length c0_9,.int .i64 a0_10,.int .i64 a0_11,.int .i64 a0_12,.int .i64 a0_13,.int .i64 a0_14,.int .i64 a0_15] 51 (0,0)) (kA BK288.out) hb); have n1_ := Aside0.mk (below_step bA hb); clear BK288; clear HB; have BK288 := n0_; have HB := n1_; clear n0_ n1_; (try clear hb); (try clear hb2); (try clear hk); (try clear hi)))
         go_ret
         exact ⟨by first | rfl | (simp [errW_none,errW_some] <;> rfl) | (simp [*,errW_none,errW_some] <;> rfl),bA⟩
       ·rw [if_neg c41] at H
        have c41b0 : decide ((l0_9.length : Int) ≤ 300) = false := decide_eq_false c41
        have c41b1 : decide (l0_9.length ≤ 300) = false := decide_eq_false (by omega)
        clear c41
        obtain rfl := Option.some.inj H
        have hcz51_0 : wc.cell? ⟨gb288,0,none⟩ = some (.int .i64 a0_0) := (blk_cell BK288.out 0).trans rfl
        have hcz51_1 : wc.cell? ⟨gb288,1,none⟩ = some (.int .i64 a0_1) := (blk_cell BK288.out 1).trans rfl
        have hcz51_2 : wc.cell? ⟨gb288,2,none⟩ = some (.int .i64 a0_2) := (blk_cell BK288.out 2).trans rfl
        have hcz51_3 : wc.cell? ⟨gb288,3,none⟩ = some (.int .i64 a0_3) := (blk_cell BK288.out 3).trans rfl
        have hcz51_4 : wc.cell? ⟨gb288,4,none⟩ = some (.int .i64 a0_4) := (blk_cell BK288.out 4).trans rfl
        have hcz51_5 : wc.cell? ⟨gb288,5,none⟩ = some (.int .i64 a0_5) := (blk_cell BK288.out 5).trans rfl
        have hcz51_6 : wc.cell? ⟨gb288,6,none⟩ = some (.int .i64 a0_6) := (blk_cell BK288.out 6).trans rfl
        have hcz51_7 : wc.cell? ⟨gb288,7,none⟩ = some (.int .i64 a0_7) := (blk_cell BK288.out 7).trans rfl
        have hcz51_8 : wc.cell? ⟨gb288,8,none⟩ = some (.string a0_8) := (blk_cell BK288.out 8).trans rfl
        have hcz51_9 : wc.cell? ⟨gb288,9,none⟩ = some (.slice A0_9 l0_9.length c0_9) := (blk_cell BK288.out 9).trans rfl
        have hcz51_10 : wc.cell? ⟨gb288,10,none⟩ = some (.int .i64 a0_10) := (blk_cell BK288.out 10).trans rfl
        have hcz51_11 : wc.cell? ⟨gb288,11,none⟩ = some (.int .i64 a0_11) := (blk_cell BK288.out 11).trans rfl
        have hcz51_12 : wc.cell? ⟨gb288,12,none⟩ = some (.int .i64 a0_12) := (blk_cell BK288.out 12).trans rfl
        have hcz51_13 : wc.cell? ⟨gb288,13,none⟩ = some (.int .i64 a0_13) := (blk_cell BK288.out 13).trans rfl
        have hcz51_14 : wc.cell? ⟨gb288,14,none⟩ = some (.int .i64 a0_14) := (blk_cell BK288.out 14).trans rfl
        have hcz51_15 : wc.cell? ⟨gb288,15,none⟩ = some (.int .i64 a0_15) := (blk_cell BK288.out 15).trans rfl
        have hfz51_0 := blk_frozen BK288.out 0
        have hfz51_1 := blk_frozen BK288.out 1
        have hfz51_2 := blk_frozen BK288.out 2
        have hfz51_3 := blk_frozen BK288.out 3
        have hfz51_4 := blk_frozen BK288.out 4
        have hfz51_5 := blk_frozen BK288.out 5
        have hfz51_6 := blk_frozen BK288.out 6
        have hfz51_7 := blk_frozen BK288.out 7
        have hfz51_8 := blk_frozen BK288.out 8
        have hfz51_9 := blk_frozen BK288.out 9
        have hfz51_10 := blk_frozen BK288.out 10
        have hfz51_11 := blk_frozen BK288.out 11
        have hfz51_12 := blk_frozen BK288.out 12
        have hfz51_13 := blk_frozen BK288.out 13
        have hfz51_14 := blk_frozen BK288.out 14
        have hfz51_15 := blk_frozen BK288.out 15
        go_wp2
        go_ret
        exact ⟨by first | rfl | (simp [errW_none,errW_some] <;> rfl) | (simp [*,errW_none,errW_some] <;> rfl),bA⟩

end Go.Proofs.YtleifhnoaaphmaaDoor.XFnExactWorkerOK
