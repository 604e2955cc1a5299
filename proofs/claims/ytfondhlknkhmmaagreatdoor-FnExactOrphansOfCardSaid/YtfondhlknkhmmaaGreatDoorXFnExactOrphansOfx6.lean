-- Printed by this session's own program wip/tools/xprint.py, which widens the kit's print. Not trusted: Lean checks it.
import Derived.Test.YtfondhlknkhmmaaGreatDoorXFnExactOrphansOfx0
import Derived.Test.YtfondhlknkhmmaaGreatDoorXFnExactOrphansOfx3
import Derived.Test.YtfondhlknkhmmaaGreatDoorXFnExactOrphansOfx5
namespace Go.Proofs.YtfondhlknkhmmaaGreatDoor.XFnExactOrphansOf
open List (setIfInBounds_toArray set_cons_zero set_cons_succ)
open Go.RowKit Go.Proofs.YtfondhlknkhmmaaGreatDoorW.PrintWords Go.Proofs.YtfondhlknkhmmaaGreatDoorW.PrintLast Go.Proofs.YtfondhlknkhmmaaGreatDoorW.PrintMore
attribute [local go_sem] max2_int min2_int max_two min_two max_three min_three max_four min_four   -- for this text's walks alone
set_option linter.unusedVariables false
set_option linter.unusedSimpArgs false

/-! ### spec_l07Orphans: function 18 -/
def spec_l07Orphans.l0 : Nat → List ByteArray → List ByteArray → Int → Int → Int → List (S64) → List (S71) → Int → Int → Int → Int → Int → Int → Option (List ByteArray)
 | 0,_,_,_,_,_,_,_,_,_,_,_,_,_ => none
 | k + 1,x1,x5,x6,x198000,x198001,x198002,x198003,x198004,x198005,x198006,x198007,x198008,x198009 => if x6 < (x1.length : Int) then (if 0 ≤ x6 then ((spec_l03ToKey.f k (rdOf ByteArray.empty x1 x6)).bind fun bt202 => (if bt202.2.2.2 = true then ((spec_l06Named.f k x198000 x198001 x198002 x198003 x198004 x198005 x198006 x198007 x198008 x198009 (rdOf ByteArray.empty x1 x6)).bind fun t207 => (if t207 = true then (spec_l07Orphans.l0 k x1 x5 (wrap64 (x6 + 1)) x198000 x198001 x198002 x198003 x198004 x198005 x198006 x198007 x198008 x198009) else (if bt202.1 = 0 then (if bt202.2.1 ≤ x198000 then (if x5.length < 8796093022208 then (spec_l07Orphans.l0 k x1 (x5 ++ [rdOf ByteArray.empty x1 x6]) (wrap64 (x6 + 1)) x198000 x198001 x198002 x198003 x198004 x198005 x198006 x198007 x198008 x198009) else (none)) else (if bt202.1 > 0 then (if bt202.2.2.1 < x198001 then (if x5.length < 8796093022208 then (spec_l07Orphans.l0 k x1 (x5 ++ [rdOf ByteArray.empty x1 x6]) (wrap64 (x6 + 1)) x198000 x198001 x198002 x198003 x198004 x198005 x198006 x198007 x198008 x198009) else (none)) else (spec_l07Orphans.l0 k x1 x5 (wrap64 (x6 + 1)) x198000 x198001 x198002 x198003 x198004 x198005 x198006 x198007 x198008 x198009)) else (spec_l07Orphans.l0 k x1 x5 (wrap64 (x6 + 1)) x198000 x198001 x198002 x198003 x198004 x198005 x198006 x198007 x198008 x198009))) else (if bt202.1 > 0 then (if bt202.2.2.1 < x198001 then (if x5.length < 8796093022208 then (spec_l07Orphans.l0 k x1 (x5 ++ [rdOf ByteArray.empty x1 x6]) (wrap64 (x6 + 1)) x198000 x198001 x198002 x198003 x198004 x198005 x198006 x198007 x198008 x198009) else (none)) else (spec_l07Orphans.l0 k x1 x5 (wrap64 (x6 + 1)) x198000 x198001 x198002 x198003 x198004 x198005 x198006 x198007 x198008 x198009)) else (spec_l07Orphans.l0 k x1 x5 (wrap64 (x6 + 1)) x198000 x198001 x198002 x198003 x198004 x198005 x198006 x198007 x198008 x198009))))) else (spec_l07Orphans.l0 k x1 x5 (wrap64 (x6 + 1)) x198000 x198001 x198002 x198003 x198004 x198005 x198006 x198007 x198008 x198009))) else (none)) else (some x5)
def spec_l07Orphans.f (k : Nat) (a0_0 : Int) (a0_1 : Int) (l0_2 : List (S64)) (l0_3 : List (S71)) (a0_4 : Int) (a0_5 : Int) (a0_6 : Int) (a0_7 : Int) (a0_8 : Int) (a0_9 : Int) (l1 : List ByteArray) : Option (List ByteArray) := spec_l07Orphans.l0 k l1 (([] : List ByteArray)) 0 a0_0 a0_1 l0_2 l0_3 a0_4 a0_5 a0_6 a0_7 a0_8 a0_9
theorem spec_l07Orphans.mono_l : ∀ k,(∀ y0 y1 y2 y3 y4 y5 y6 y7 y8 y9 y10 y11 y12,LeO (spec_l07Orphans.l0 k y0 y1 y2 y3 y4 y5 y6 y7 y8 y9 y10 y11 y12) (spec_l07Orphans.l0 (k + 1) y0 y1 y2 y3 y4 y5 y6 y7 y8 y9 y10 y11 y12))
 | 0 => fun _ _ _ _ _ _ _ _ _ _ _ _ _ r h => by simp [spec_l07Orphans.l0] at h
 | k + 1 => by
  have ih0 := spec_l07Orphans.mono_l k
  ·intro y0 y1 y2 y3 y4 y5 y6 y7 y8 y9 y10 y11 y12
   unfold spec_l07Orphans.l0
   repeat' first
   | (with_reducible first | exact ih0 .. | exact spec_l03ToKey.mono .. | exact spec_l06Named.mono .. | exact LeO.refl _ | exact LeO.none _ | refine LeO.ite ?_ ?_ | refine LeO.bind ?_ (fun _ => ?_))
   | exact LeO.none _ | refine LeO.ite ?_ ?_ | refine LeO.bind ?_ (fun _ => ?_)
theorem spec_l07Orphans.mono : ∀ a0 a1 a2 a3 a4 a5 a6 a7 a8 a9 a10 k,LeO (spec_l07Orphans.f k a0 a1 a2 a3 a4 a5 a6 a7 a8 a9 a10) (spec_l07Orphans.f (k + 1) a0 a1 a2 a3 a4 a5 a6 a7 a8 a9 a10) := by
 intro a0 a1 a2 a3 a4 a5 a6 a7 a8 a9 a10 k
 have ih0 := spec_l07Orphans.mono_l k
 unfold spec_l07Orphans.f
 repeat' first
 | (with_reducible first | exact ih0 .. | exact spec_l03ToKey.mono .. | exact spec_l06Named.mono .. | exact LeO.refl _ | exact LeO.none _ | refine LeO.ite ?_ ?_ | refine LeO.bind ?_ (fun _ => ?_))
 | exact LeO.none _ | refine LeO.ite ?_ ?_ | refine LeO.bind ?_ (fun _ => ?_)
def spec_l07Orphans.T6 : Bool × List (List Nat × List Nat) := (true,[([],[]),([0],[0]),([1],[1]),([1],[1]),([1],[1]),([3,4,1],[1,3,4]),([5,1],[1,5]),([2,6,1,1],[1,2,6]),([7,1],[1,7]),([1,8],[1,8]),([9,7],[9]),([10],[10]),([11,10],[10,11]),([12,10,10],[10,12]),([13],[13]),([13],[13]),([15,13],[13,15]),([14,16,13],[13,14,16]),([13,17,10],[10,13,17]),([18,13,10],[10,18]),([19],[19]),([20,19],[19,20]),([21,19,19],[19,21]),([22],[22]),([22],[22]),([24,22],[22,24]),([23,25,22],[22,23,25]),([22,26,19],[19,22,26]),([19,27,10],[10,19,27]),([10,28],[10,28])])
def spec_l07Orphans.B6 : List Nat := [0,1,3,3,3,27,59,127,255,511,1023,2047,4095,8191,16383,16383,49151,131071,262143,524287,1048575,2097151,4194303,8388607,8388607,25165823,67108863,134217727,268435455,536870911]
theorem spec_l07Orphans.tab6 : rtab .any (opsOf Tryz.f18 6) = spec_l07Orphans.T6 := by kernel_rfl
theorem spec_l07Orphans.bits6 : waitsOk spec_l07Orphans.T6.2 spec_l07Orphans.B6 = true := by kernel_rfl
set_option maxHeartbeats 8000000 in
set_option maxRecDepth 100000 in
theorem spec_l07Orphans.calls (k : Nat) (a0_0 : Int) (a0_1 : Int) (A0_2 : Option Addr) (c0_2 : Nat) (l0_2 : List (S64)) (A0_3 : Option Addr) (c0_3 : Nat) (l0_3 : List (S71)) (a0_4 : Int) (a0_5 : Int) (a0_6 : Int) (a0_7 : Int) (a0_8 : Int) (a0_9 : Int) (A1 : Option Addr) (c1 : Nat) (l1 : List ByteArray) (r : List ByteArray) (w : World) (hr0_2 : Kd.C k64 w A0_2 l0_2.length l0_2) (hc0_2 : l0_2.length ≤ c0_2) (hr0_3 : Kd.C k71 w A0_3 l0_3.length l0_3) (hc0_3 : l0_3.length ≤ c0_3) (hr1 : Kd.C Kd.string w A1 l1.length l1) (hc1 : l1.length ≤ c1) (h : spec_l07Orphans.f k a0_0 a0_1 l0_2 l0_3 a0_4 a0_5 a0_6 a0_7 a0_8 a0_9 l1 = some r) :
  Calls Tryz.prog 18 #[.agg #[.int .i64 a0_0,.int .i64 a0_1,.slice A0_2 l0_2.length c0_2,.slice A0_3 l0_3.length c0_3,.int .i64 a0_4,.int .i64 a0_5,.int .i64 a0_6,.int .i64 a0_7,.int .i64 a0_8,.int .i64 a0_9],.slice A1 l1.length c1] w fun e w' => ∃ v0_ : Value,e = .returned (v0_) ∧ Kd.R Kd.string 9 w' w.heap.size (fun _ => True) v0_ r ∧ Below w.heap.size w w' := by
 have hu35 := Tryz.underlying35
 have HR0_2 := Aside0.mk hr0_2
 have HC0_2 := Aside0.mk hc0_2
 clear hr0_2 hc0_2
 have HR0_3 := Aside0.mk hr0_3
 have HC0_3 := Aside0.mk hc0_3
 clear hr0_3 hc0_3
 have HR1 := Aside0.mk hr1
 have HC1 := Aside0.mk hc1
 clear hr1 hc1
 have HB := Aside0.mk (Below.refl w.heap.size w)
 have H : (spec_l07Orphans.l0 k l1 (([] : List ByteArray)) 0 a0_0 a0_1 l0_2 l0_3 a0_4 a0_5 a0_6 a0_7 a0_8 a0_9) = some r := h
 clear h
 obtain ⟨y198,hy198⟩ : ∃ y_ : List ByteArray,y_ = (([] : List ByteArray)) := ⟨_,rfl⟩
 replace H : (spec_l07Orphans.l0 k l1 y198 0 a0_0 a0_1 l0_2 l0_3 a0_4 a0_5 a0_6 a0_7 a0_8 a0_9) = some r := by first | (rw [hy198]; with_reducible exact H) | (have H2_ := (Option.bind_some _ _).symm.trans H; rw [hy198]; with_reducible exact H2_) | (have H2_ := (Option.bind_some _ _).symm.trans H; with_reducible exact H2_) | with_reducible exact H | (rw [hy198]; exact H) | exact H
 have Ny198 := Aside0.mk hy198
 clear hy198
 have H' := Aside0.mk H
 clear H
 go_enter Tryz.func18,Tryz.ntmps18
 go_wp2_with (first | ((with_reducible refine gate_dst (N:=2) rfl ?_); refine box_event ?hg (N:=2) ?hd (cs := #[.int .i64 a0_0,.int .i64 a0_1,.slice A0_2 l0_2.length c0_2,.slice A0_3 l0_3.length c0_3,.int .i64 a0_4,.int .i64 a0_5,.int .i64 a0_6,.int .i64 a0_7,.int .i64 a0_8,.int .i64 a0_9]) (t:=35) ?hr ?_; (case hd => rfl); (case hg => rfl); (case hr => first | (go_simp; done) | (go_simp; rfl)); intro gb197 hg w3 hbox hb; have n0_ := Aside0.mk (below_step bA hb); have n1_ := Aside0.mk (hbox); have n2_ := Aside0.mk ((gw hg : w.heap.size ≤ gb197)); have n3_ := Aside0.mk ((gw hg : w.heap.size ≤ gb197)); clear HB; have HB := n0_; have BK197 := n1_; have GW197 := n2_; have GE197 := n3_; clear n0_ n1_ n2_ n3_; clear hb hbox hg) | ((with_reducible refine gate_dst (N:=11) rfl ?_); refine Kd.R_lit Kd.string _ 9 ?hg (N:=11) ?hd (xs := ([] : List ByteArray)) (inner := []) (ok := fun _ => True) (okp := fun _ => True) ?hr ?hp (fun _ hk => hk) trivial (Below.refl _ _) (Nat.le_refl _) (by simp) ?_; (case hd => rfl); (case hg => rfl); (case hr => first | (go_simp; done) | (go_simp; rfl)); (case hp => exact (Reps.none _ _)); intro v199 w4 ho5 hb hg_ hnew_; clear hg_ hnew_; (first | rw [← Ny198.out] at ho5 | (simp only [Int.reduceToNat] at ho5; rw [← Ny198.out] at ho5)); have n0_ := Aside0.mk (Kd.R_lower ho5 (below_size bA)); have n1_ := Aside0.mk (bb BK197.out hb); have n2_ := Aside0.mk (below_step bA hb); clear BK197 HB; have HO200 := n0_; have BK197 := n1_; have HB := n2_; clear n0_ n1_ n2_; clear hb ho5))
 go_loopg [5,6] k (fun kq v5 v6 w' => ∃ (x5_1 : List ByteArray) (x6_1 : Int),v6 = .int .i64 x6_1 ∧ Aside0 (spec_l07Orphans.l0 kq l1 x5_1 x6_1 a0_0 a0_1 l0_2 l0_3 a0_4 a0_5 a0_6 a0_7 a0_8 a0_9 = some r) ∧ Aside0 (kq ≤ k) ∧ Aside0 (Kd.R Kd.string 9 w' w.heap.size (fun _ => True) v5 x5_1) ∧ Aside0 (w'.heap[gb197]? = some (.cells #[.int .i64 a0_0,.int .i64 a0_1,(.slice A0_2 l0_2.length c0_2),(.slice A0_3 l0_3.length c0_3),.int .i64 a0_4,.int .i64 a0_5,.int .i64 a0_6,.int .i64 a0_7,.int .i64 a0_8,.int .i64 a0_9] 35 (0,0))) ∧ Aside0 (Below w.heap.size w w'))
 case atStart => exact ⟨(y198),(0),(by first | rfl | (simp; done) | (simp [*]; done)),H',⟨Nat.le_refl _⟩,⟨rA HO200.out⟩,⟨kA BK197.out⟩,⟨bA⟩⟩
 case round =>
  clear H'
  try clear c1
  try clear p2
  obtain ⟨x5_1,x6_1,rfl,HA,HK1,HO_5,BK197,HB⟩ := hrel
  cases gk with
  | zero => exact absurd HA.out (by simp [spec_l07Orphans.l0])
  | succ k1 =>
   have H := HA.out
   clear HA
   simp only [spec_l07Orphans.l0] at H
   by_cases c6 : x6_1 < (l1.length : Int)
   ·rw [if_pos c6] at H
    have c6b0 : decide (x6_1 < (l1.length : Int)) = true := decide_eq_true c6
    clear c6
    by_cases c7 : 0 ≤ x6_1
    ·rw [if_pos c7] at H
     have c7b0 : decide (0 ≤ x6_1) = true := decide_eq_true c7
     clear c7
     replace H := Option.bind_eq_some_iff.mp H
     obtain ⟨⟨t202,t203,t204,t205⟩,A80,H⟩ := H
     try dsimp only at H
     have A8 := Aside0.mk A80
     clear A80
     by_cases c9 : t205 = true
     ·subst c9
      rw [if_pos rfl] at H
      replace H := Option.bind_eq_some_iff.mp H
      obtain ⟨t207,A100,H⟩ := H
      try dsimp only at H
      have A10 := Aside0.mk A100
      clear A100
      by_cases c11 : t207 = true
      ·subst c11
       rw [if_pos rfl] at H
       have H' := Aside0.mk H
       clear H
       have p201 : 0 ≤ (x6_1 : Int) := od
       have q201 : x6_1 < (l1.length : Int) := od
       obtain ⟨ad201,e201,hx201_0⟩ := Kd.at_string HR1.out x6_1 p201 q201
       cases e201
       replace hx201_0 := cb HB.out hx201_0
       replace p201 := eq_true p201
       replace q201 := eq_true q201
       try go_wp2_with (first | ((with_reducible refine gate_callee (f:=37) rfl ?_); refine goesL_ (some 23) rfl rfl Tryz.func37 (by kernel_rfl) rfl #[.string (rdOf ByteArray.empty l1 x6_1)] rfl mA ?_; (with_reducible refine (spec_l03ToKey.calls k1 (rdOf ByteArray.empty l1 x6_1) t202 t203 t204 true _ A8.out).mono ?_); rintro e w12 ⟨rfl,hb⟩; refine ⟨_,rfl,?_⟩; have n0_ := Aside0.mk (Kd.R_below (rA HO_5.out) hb); have n1_ := Aside0.mk (bb BK197.out hb); have n2_ := Aside0.mk (below_step bA hb); clear HO_5 BK197 HB; have HO_5 := n0_; have BK197 := n1_; have HB := n2_; clear n0_ n1_ n2_; (try clear hb); (try clear hb2); (try clear hk); (try clear hi)))
       have n0_ := Aside0.mk (Kd.R_drew HO_5.out)
       have n1_ := Aside0.mk (blk_drew BK197.out)
       have n2_ := Aside0.mk (below_drew1 HB.out)
       clear HO_5 BK197 HB
       have HO_5 := n0_
       have BK197 := n1_
       have HB := n2_
       clear n0_ n1_ n2_
       have p206 : 0 ≤ (x6_1 : Int) := od
       have q206 : x6_1 < (l1.length : Int) := od
       obtain ⟨ad206,e206,hx206_0⟩ := Kd.at_string HR1.out x6_1 p206 q206
       have hw206_0 := hx206_0
       obtain rfl : ad201 = ad206 := (by injection e206)
       replace hx206_0 := cb HB.out hx206_0
       replace p206 := eq_true p206
       replace q206 := eq_true q206
       refine start_ (n:=30) (S:=fun w' => w'.cell? ⟨gb197,0,none⟩ = some (.int .i64 a0_0) ∧ w'.cell? ⟨gb197,1,none⟩ = some (.int .i64 a0_1) ∧ w'.cell? ⟨gb197,2,none⟩ = some (.slice A0_2 l0_2.length c0_2) ∧ w'.cell? ⟨gb197,3,none⟩ = some (.slice A0_3 l0_3.length c0_3) ∧ w'.cell? ⟨gb197,4,none⟩ = some (.int .i64 a0_4) ∧ w'.cell? ⟨gb197,5,none⟩ = some (.int .i64 a0_5) ∧ w'.cell? ⟨gb197,6,none⟩ = some (.int .i64 a0_6) ∧ w'.cell? ⟨gb197,7,none⟩ = some (.int .i64 a0_7) ∧ w'.cell? ⟨gb197,8,none⟩ = some (.int .i64 a0_8) ∧ w'.cell? ⟨gb197,9,none⟩ = some (.int .i64 a0_9) ∧ w'.cell? (ad201.add (x6_1).toNat) = some (.string (rdOf ByteArray.empty l1 x6_1))) (ds := []) (bm 30 0) (by kernel_rfl) rfl rfl ⟨bl BK197 0,bl BK197 1,bl BK197 2,bl BK197 3,bl BK197 4,bl BK197 5,bl BK197 6,bl BK197 7,bl BK197 8,bl BK197 9,(cb HB.out hw206_0)⟩ (fun hHeld => ?_); refine with_tabW spec_l07Orphans.tab6 spec_l07Orphans.bits6 (fun HT_ HW_ => ?_)
       generalize w12.drew = w13 at HO_5 BK197 HB hx206_0 hHeld ⊢
       refine pV_ 0 28 (bm 30 1) HT_.out ?_
       refine pV_ 1 29 (bm 30 3) HT_.out ?_
       refine pV_ 3 31 (bm 30 11) HT_.out ?_
       refine pV_ 4 32 (bm 30 27) HT_.out ?_
       refine pV_ 5 33 (bm 30 59) HT_.out ?_
       refine take_ (i:=2) (N:=some 30) (v:=?_) (a':=?_) (bm 30 63) rfl rfl (take_ofW HT_.out HW_.out (by kernel_rfl)) (fun _ _ _ h => h) (Or.inl ⟨by rfl,?_⟩) hHeld ?_ ?_
       rotate_left
       ·rintro w' ⟨s0,s1,s2,s3,s4,s5,s6,s7,s8,s9,s10⟩
        go_simp
        with_reducible rfl
       rotate_left
       ·simp only [Act.put,setIfInBounds_toArray,set_cons_zero,set_cons_succ,i64_w,i32_w]
        rfl
       refine take_ (i:=6) (N:=some 34) (v:=?_) (a':=?_) (bm 30 127) rfl rfl (take_ofW HT_.out HW_.out (by kernel_rfl)) (fun _ _ _ h => h) (Or.inl ⟨by rfl,?_⟩) hHeld ?_ ?_
       rotate_left
       ·rintro w' ⟨s0,s1,s2,s3,s4,s5,s6,s7,s8,s9,s10⟩
        go_simp
        with_reducible rfl
       rotate_left
       ·simp only [Act.put,setIfInBounds_toArray,set_cons_zero,set_cons_succ,i64_w,i32_w]
        rfl
       refine one_ (i:=7) (N:=some 35) (bm 30 255) rfl rfl (one_of HT_.out (by kernel_rfl)) (by decide) (fun K hK => ?_)
       refine goes_ Tryz.func38 (by kernel_rfl) rfl #[.agg #[.int .i64 a0_0,.int .i64 a0_1,.slice A0_2 l0_2.length c0_2,.slice A0_3 l0_3.length c0_3,.int .i64 a0_4,.int .i64 a0_5,.int .i64 a0_6,.int .i64 a0_7,.int .i64 a0_8,.int .i64 a0_9],.string (rdOf ByteArray.empty l1 x6_1)] (by rfl) rfl rfl mA ?_
       with_reducible refine (spec_l06Named.calls k1 a0_0 a0_1 _ _ l0_2 _ _ l0_3 a0_4 a0_5 a0_6 a0_7 a0_8 a0_9 (rdOf ByteArray.empty l1 x6_1) true _ ?side1 ?side2 ?side3 ?side4 A10.out).mono ?_
       (case side1 => exact sC HR0_2.out)
       (case side2 => exact HC0_2.out)
       (case side3 => exact sC HR0_3.out)
       (case side4 => exact HC0_3.out)
       rintro e w14 ⟨rfl,hb⟩
       refine ⟨_,rfl,?_⟩
       have n0_ := Aside0.mk (Kd.R_below (rA HO_5.out) hb)
       have n1_ := Aside0.mk (bb BK197.out hb)
       have n2_ := Aside0.mk (below_step bA hb)
       clear HO_5 BK197 HB
       have HO_5 := n0_
       have BK197 := n1_
       have HB := n2_
       clear n0_ n1_ n2_
       (try clear hb)
       (try clear hb2)
       (try clear hk)
       (try clear hi)
       refine hK.out _ _ ⟨bl BK197 0,bl BK197 1,bl BK197 2,bl BK197 3,bl BK197 4,bl BK197 5,bl BK197 6,bl BK197 7,bl BK197 8,bl BK197 9,(cb HB.out hw206_0)⟩ (fun hHeld => ?_)
       clear hK K
       refine norm_ (a':=?_) ?_ ?_
       rotate_left
       ·show Act.put _ (some 35) _ = _
        simp only [Act.put,setIfInBounds_toArray,set_cons_zero,set_cons_succ,i64_w,i32_w]
        rfl
       refine pV_ 8 36 (bm 30 511) HT_.out ?_
       refine pV_ 9 37 (bm 30 1023) HT_.out ?_
       refine pV_ 10 38 (bm 30 2047) HT_.out ?_
       refine pU_ 11 39 (bm 30 4095) HT_.out ?_
       refine pU_ 12 40 (bm 30 8191) HT_.out ?_
       refine pU_ 13 41 (bm 30 16383) HT_.out ?_
       refine pU_ 14 42 (bm 30 32767) HT_.out ?_
       refine pU_ 15 43 (bm 30 65535) HT_.out ?_
       refine pU_ 16 44 (bm 30 131071) HT_.out ?_
       refine pU_ 17 45 (bm 30 262143) HT_.out ?_
       refine pU_ 18 46 (bm 30 524287) HT_.out ?_
       refine pU_ 19 47 (bm 30 1048575) HT_.out ?_
       refine pU_ 20 48 (bm 30 2097151) HT_.out ?_
       refine pU_ 21 49 (bm 30 4194303) HT_.out ?_
       refine pU_ 22 50 (bm 30 8388607) HT_.out ?_
       refine pU_ 23 51 (bm 30 16777215) HT_.out ?_
       refine pU_ 24 52 (bm 30 33554431) HT_.out ?_
       refine pU_ 25 53 (bm 30 67108863) HT_.out ?_
       refine pU_ 26 54 (bm 30 134217727) HT_.out ?_
       refine pU_ 27 55 (bm 30 268435455) HT_.out ?_
       refine pU_ 28 56 (bm 30 536870911) HT_.out ?_
       refine pV_ 29 57 (bm 30 1073741823) HT_.out ?_
       refine done_ (done_of HT_.out (by kernel_rfl)) ?_
       try go_wp2
       go_roundg k1
       case measure => have := HK1.out; omega
       case rel => exact ⟨(x5_1),(wrap64 (x6_1 + 1)),(by first | rfl | (simp; done) | (simp [*]; done)),H',⟨by have := HK1.out; omega⟩,⟨rA HO_5.out⟩,⟨kA BK197.out⟩,⟨bA⟩⟩
      ·replace c11 := Bool.eq_false_iff.mpr c11
       subst c11
       rw [if_neg (show ¬ (false = true) by decide)] at H
       by_cases c15 : t202 = 0
       ·rw [if_pos c15] at H
        have c15b0 : (t202 == 0) = true := beq_iff_eq.mpr c15
        have c15b1 : (t202 != 0) = false := bne_eq_false_iff_eq.mpr c15
        clear c15
        by_cases c16 : t203 ≤ a0_0
        ·rw [if_pos c16] at H
         have c16b0 : decide (t203 ≤ a0_0) = true := decide_eq_true c16
         clear c16
         by_cases c17 : x5_1.length < 8796093022208
         ·rw [if_pos c17] at H
          have LMc17 := Aside0.mk c17
          clear c17
          obtain ⟨y209,hy209⟩ : ∃ y_ : List ByteArray,y_ = (x5_1 ++ [rdOf ByteArray.empty l1 x6_1]) := ⟨_,rfl⟩
          replace H : (spec_l07Orphans.l0 k1 l1 y209 (wrap64 (x6_1 + 1)) a0_0 a0_1 l0_2 l0_3 a0_4 a0_5 a0_6 a0_7 a0_8 a0_9) = some r := by first | (rw [hy209]; with_reducible exact H) | (have H2_ := (Option.bind_some _ _).symm.trans H; rw [hy209]; with_reducible exact H2_) | (have H2_ := (Option.bind_some _ _).symm.trans H; with_reducible exact H2_) | with_reducible exact H | (rw [hy209]; exact H) | exact H
          have Ny209 := Aside0.mk hy209
          clear hy209
          have H' := Aside0.mk H
          clear H
          have p201 : 0 ≤ (x6_1 : Int) := od
          have q201 : x6_1 < (l1.length : Int) := od
          obtain ⟨ad201,e201,hx201_0⟩ := Kd.at_string HR1.out x6_1 p201 q201
          cases e201
          replace hx201_0 := cb HB.out hx201_0
          replace p201 := eq_true p201
          replace q201 := eq_true q201
          try go_wp2_with (first | ((with_reducible refine gate_callee (f:=37) rfl ?_); refine goesL_ (some 23) rfl rfl Tryz.func37 (by kernel_rfl) rfl #[.string (rdOf ByteArray.empty l1 x6_1)] rfl mA ?_; (with_reducible refine (spec_l03ToKey.calls k1 (rdOf ByteArray.empty l1 x6_1) t202 t203 t204 true _ A8.out).mono ?_); rintro e w18 ⟨rfl,hb⟩; refine ⟨_,rfl,?_⟩; have n0_ := Aside0.mk (Kd.R_below (rA HO_5.out) hb); have n1_ := Aside0.mk (bb BK197.out hb); have n2_ := Aside0.mk (below_step bA hb); clear HO_5 BK197 HB; have HO_5 := n0_; have BK197 := n1_; have HB := n2_; clear n0_ n1_ n2_; (try clear hb); (try clear hb2); (try clear hk); (try clear hi)))
          have n0_ := Aside0.mk (Kd.R_drew HO_5.out)
          have n1_ := Aside0.mk (blk_drew BK197.out)
          have n2_ := Aside0.mk (below_drew1 HB.out)
          clear HO_5 BK197 HB
          have HO_5 := n0_
          have BK197 := n1_
          have HB := n2_
          clear n0_ n1_ n2_
          have p206 : 0 ≤ (x6_1 : Int) := od
          have q206 : x6_1 < (l1.length : Int) := od
          obtain ⟨ad206,e206,hx206_0⟩ := Kd.at_string HR1.out x6_1 p206 q206
          have hw206_0 := hx206_0
          obtain rfl : ad201 = ad206 := (by injection e206)
          replace hx206_0 := cb HB.out hx206_0
          replace p206 := eq_true p206
          replace q206 := eq_true q206
          refine start_ (n:=30) (S:=fun w' => w'.cell? ⟨gb197,0,none⟩ = some (.int .i64 a0_0) ∧ w'.cell? ⟨gb197,1,none⟩ = some (.int .i64 a0_1) ∧ w'.cell? ⟨gb197,2,none⟩ = some (.slice A0_2 l0_2.length c0_2) ∧ w'.cell? ⟨gb197,3,none⟩ = some (.slice A0_3 l0_3.length c0_3) ∧ w'.cell? ⟨gb197,4,none⟩ = some (.int .i64 a0_4) ∧ w'.cell? ⟨gb197,5,none⟩ = some (.int .i64 a0_5) ∧ w'.cell? ⟨gb197,6,none⟩ = some (.int .i64 a0_6) ∧ w'.cell? ⟨gb197,7,none⟩ = some (.int .i64 a0_7) ∧ w'.cell? ⟨gb197,8,none⟩ = some (.int .i64 a0_8) ∧ w'.cell? ⟨gb197,9,none⟩ = some (.int .i64 a0_9) ∧ w'.cell? (ad201.add (x6_1).toNat) = some (.string (rdOf ByteArray.empty l1 x6_1))) (ds := []) (bm 30 0) (by kernel_rfl) rfl rfl ⟨bl BK197 0,bl BK197 1,bl BK197 2,bl BK197 3,bl BK197 4,bl BK197 5,bl BK197 6,bl BK197 7,bl BK197 8,bl BK197 9,(cb HB.out hw206_0)⟩ (fun hHeld => ?_); refine with_tabW spec_l07Orphans.tab6 spec_l07Orphans.bits6 (fun HT_ HW_ => ?_)
          generalize w18.drew = w19 at HO_5 BK197 HB hx206_0 hHeld ⊢
          refine pV_ 0 28 (bm 30 1) HT_.out ?_
          refine pV_ 1 29 (bm 30 3) HT_.out ?_
          refine pV_ 3 31 (bm 30 11) HT_.out ?_
          refine pV_ 4 32 (bm 30 27) HT_.out ?_
          refine pV_ 5 33 (bm 30 59) HT_.out ?_
          refine take_ (i:=2) (N:=some 30) (v:=?_) (a':=?_) (bm 30 63) rfl rfl (take_ofW HT_.out HW_.out (by kernel_rfl)) (fun _ _ _ h => h) (Or.inl ⟨by rfl,?_⟩) hHeld ?_ ?_
          rotate_left
          ·rintro w' ⟨s0,s1,s2,s3,s4,s5,s6,s7,s8,s9,s10⟩
           go_simp
           with_reducible rfl
          rotate_left
          ·simp only [Act.put,setIfInBounds_toArray,set_cons_zero,set_cons_succ,i64_w,i32_w]
           rfl
          refine take_ (i:=6) (N:=some 34) (v:=?_) (a':=?_) (bm 30 127) rfl rfl (take_ofW HT_.out HW_.out (by kernel_rfl)) (fun _ _ _ h => h) (Or.inl ⟨by rfl,?_⟩) hHeld ?_ ?_
          rotate_left
          ·rintro w' ⟨s0,s1,s2,s3,s4,s5,s6,s7,s8,s9,s10⟩
           go_simp
           with_reducible rfl
          rotate_left
          ·simp only [Act.put,setIfInBounds_toArray,set_cons_zero,set_cons_succ,i64_w,i32_w]
           rfl
          refine one_ (i:=7) (N:=some 35) (bm 30 255) rfl rfl (one_of HT_.out (by kernel_rfl)) (by decide) (fun K hK => ?_)
          refine goes_ Tryz.func38 (by kernel_rfl) rfl #[.agg #[.int .i64 a0_0,.int .i64 a0_1,.slice A0_2 l0_2.length c0_2,.slice A0_3 l0_3.length c0_3,.int .i64 a0_4,.int .i64 a0_5,.int .i64 a0_6,.int .i64 a0_7,.int .i64 a0_8,.int .i64 a0_9],.string (rdOf ByteArray.empty l1 x6_1)] (by rfl) rfl rfl mA ?_
          with_reducible refine (spec_l06Named.calls k1 a0_0 a0_1 _ _ l0_2 _ _ l0_3 a0_4 a0_5 a0_6 a0_7 a0_8 a0_9 (rdOf ByteArray.empty l1 x6_1) false _ ?side1 ?side2 ?side3 ?side4 A10.out).mono ?_
          (case side1 => exact sC HR0_2.out)
          (case side2 => exact HC0_2.out)
          (case side3 => exact sC HR0_3.out)
          (case side4 => exact HC0_3.out)
          rintro e w20 ⟨rfl,hb⟩
          refine ⟨_,rfl,?_⟩
          have n0_ := Aside0.mk (Kd.R_below (rA HO_5.out) hb)
          have n1_ := Aside0.mk (bb BK197.out hb)
          have n2_ := Aside0.mk (below_step bA hb)
          clear HO_5 BK197 HB
          have HO_5 := n0_
          have BK197 := n1_
          have HB := n2_
          clear n0_ n1_ n2_
          (try clear hb)
          (try clear hb2)
          (try clear hk)
          (try clear hi)
          refine hK.out _ _ ⟨bl BK197 0,bl BK197 1,bl BK197 2,bl BK197 3,bl BK197 4,bl BK197 5,bl BK197 6,bl BK197 7,bl BK197 8,bl BK197 9,(cb HB.out hw206_0)⟩ (fun hHeld => ?_)
          clear hK K
          refine norm_ (a':=?_) ?_ ?_
          rotate_left
          ·show Act.put _ (some 35) _ = _
           simp only [Act.put,setIfInBounds_toArray,set_cons_zero,set_cons_succ,i64_w,i32_w]
           rfl
          refine pV_ 8 36 (bm 30 511) HT_.out ?_
          refine pV_ 9 37 (bm 30 1023) HT_.out ?_
          refine pV_ 10 38 (bm 30 2047) HT_.out ?_
          refine pV_ 11 39 (bm 30 4095) HT_.out ?_
          refine pV_ 12 40 (bm 30 8191) HT_.out ?_
          refine pV_ 13 41 (bm 30 16383) HT_.out ?_
          refine pV_ 14 42 (bm 30 32767) HT_.out ?_
          refine pV_ 15 43 (bm 30 65535) HT_.out ?_
          refine take_ (i:=16) (N:=some 44) (v:=?_) (a':=?_) (bm 30 131071) rfl rfl (take_ofW HT_.out HW_.out (by kernel_rfl)) (fun _ _ _ h => h) (Or.inl ⟨by rfl,?_⟩) hHeld ?_ ?_
          rotate_left
          ·rintro w' ⟨s0,s1,s2,s3,s4,s5,s6,s7,s8,s9,s10⟩
           go_simp
           with_reducible rfl
          rotate_left
          ·simp only [Act.put,setIfInBounds_toArray,set_cons_zero,set_cons_succ,i64_w,i32_w]
           rfl
          refine pV_ 17 45 (bm 30 262143) HT_.out ?_
          refine pV_ 18 46 (bm 30 524287) HT_.out ?_
          refine pV_ 19 47 (bm 30 1048575) HT_.out ?_
          refine pU_ 20 48 (bm 30 2097151) HT_.out ?_
          refine pU_ 21 49 (bm 30 4194303) HT_.out ?_
          refine pU_ 22 50 (bm 30 8388607) HT_.out ?_
          refine pU_ 23 51 (bm 30 16777215) HT_.out ?_
          refine pU_ 24 52 (bm 30 33554431) HT_.out ?_
          refine pU_ 25 53 (bm 30 67108863) HT_.out ?_
          refine pU_ 26 54 (bm 30 134217727) HT_.out ?_
          refine pU_ 27 55 (bm 30 268435455) HT_.out ?_
          refine pV_ 28 56 (bm 30 536870911) HT_.out ?_
          refine pV_ 29 57 (bm 30 1073741823) HT_.out ?_
          refine done_ (done_of HT_.out (by kernel_rfl)) ?_
          have p208 : 0 ≤ (x6_1 : Int) := od
          have q208 : x6_1 < (l1.length : Int) := od
          obtain ⟨ad208,e208,hx208_0⟩ := Kd.at_string HR1.out x6_1 p208 q208
          obtain rfl : ad201 = ad208 := (by injection e208)
          replace hx208_0 := cb HB.out hx208_0
          replace p208 := eq_true p208
          replace q208 := eq_true q208
          try go_wp2_with (first | ((with_reducible refine gate_builtin (b:=.append) (xs := #[.tmp 58,.tmp 63]) rfl ?_); at_builtin; refine Kd.R_append Kd.string (w0 := w) w.heap.size rfl (.tmp 58) (.tmp 63) 27 9 (.string ⟨#[]⟩) 16 rfl Tryz.underlying27 info9 rfl (by decide) (by omega) u5 x5_1 (rdOf ByteArray.empty l1 x6_1) [.string (rdOf ByteArray.empty l1 x6_1)] (fun _ => True) (fun _ => False) rfl rfl ?aP (fun _ hk => hk.elim) ?aF ?aO ?aB ?aS ?aL ?_; (case aP => exact rfl); (case aB => exact bA); (case aF => exact (fun _ _ => trivial)); (case aO => exact (rA HO_5.out)); (case aS => exact (below_size bA)); (case aL => have := LMc17.out; omega); intro v210 w21 ho hb hg hat; rw [← Ny209.out] at ho; have n0_ := Aside0.mk (bg BK197.out hg (Kd.R_ne HO_5.out BK197.out (by decide))); have n1_ := Aside0.mk (hb); have n2_ := Aside0.mk (ho); clear BK197 HB HO_5; have BK197 := n0_; have HB := n1_; have HO211 := n2_; clear n0_ n1_ n2_; clear ho hb hg hat))
          go_roundg k1
          case measure => have := HK1.out; omega
          case rel => exact ⟨(y209),(wrap64 (x6_1 + 1)),(by first | rfl | (simp; done) | (simp [*]; done)),H',⟨by have := HK1.out; omega⟩,⟨rA HO211.out⟩,⟨kA BK197.out⟩,⟨bA⟩⟩
         ·rw [if_neg c17] at H
          exact absurd H (by simp)
        ·rw [if_neg c16] at H
         have c16b0 : decide (t203 ≤ a0_0) = false := decide_eq_false c16
         clear c16
         by_cases c22 : t202 > 0
         ·rw [if_pos c22] at H
          have c22b0 : decide (0 < t202) = true := decide_eq_true c22
          clear c22
          by_cases c23 : t204 < a0_1
          ·rw [if_pos c23] at H
           have c23b0 : decide (t204 < a0_1) = true := decide_eq_true c23
           clear c23
           by_cases c24 : x5_1.length < 8796093022208
           ·rw [if_pos c24] at H
            have LMc24 := Aside0.mk c24
            clear c24
            obtain ⟨y213,hy213⟩ : ∃ y_ : List ByteArray,y_ = (x5_1 ++ [rdOf ByteArray.empty l1 x6_1]) := ⟨_,rfl⟩
            replace H : (spec_l07Orphans.l0 k1 l1 y213 (wrap64 (x6_1 + 1)) a0_0 a0_1 l0_2 l0_3 a0_4 a0_5 a0_6 a0_7 a0_8 a0_9) = some r := by first | (rw [hy213]; with_reducible exact H) | (have H2_ := (Option.bind_some _ _).symm.trans H; rw [hy213]; with_reducible exact H2_) | (have H2_ := (Option.bind_some _ _).symm.trans H; with_reducible exact H2_) | with_reducible exact H | (rw [hy213]; exact H) | exact H
            have Ny213 := Aside0.mk hy213
            clear hy213
            have H' := Aside0.mk H
            clear H
            have p201 : 0 ≤ (x6_1 : Int) := od
            have q201 : x6_1 < (l1.length : Int) := od
            obtain ⟨ad201,e201,hx201_0⟩ := Kd.at_string HR1.out x6_1 p201 q201
            cases e201
            replace hx201_0 := cb HB.out hx201_0
            replace p201 := eq_true p201
            replace q201 := eq_true q201
            try go_wp2_with (first | ((with_reducible refine gate_callee (f:=37) rfl ?_); refine goesL_ (some 23) rfl rfl Tryz.func37 (by kernel_rfl) rfl #[.string (rdOf ByteArray.empty l1 x6_1)] rfl mA ?_; (with_reducible refine (spec_l03ToKey.calls k1 (rdOf ByteArray.empty l1 x6_1) t202 t203 t204 true _ A8.out).mono ?_); rintro e w25 ⟨rfl,hb⟩; refine ⟨_,rfl,?_⟩; have n0_ := Aside0.mk (Kd.R_below (rA HO_5.out) hb); have n1_ := Aside0.mk (bb BK197.out hb); have n2_ := Aside0.mk (below_step bA hb); clear HO_5 BK197 HB; have HO_5 := n0_; have BK197 := n1_; have HB := n2_; clear n0_ n1_ n2_; (try clear hb); (try clear hb2); (try clear hk); (try clear hi)))
            have n0_ := Aside0.mk (Kd.R_drew HO_5.out)
            have n1_ := Aside0.mk (blk_drew BK197.out)
            have n2_ := Aside0.mk (below_drew1 HB.out)
            clear HO_5 BK197 HB
            have HO_5 := n0_
            have BK197 := n1_
            have HB := n2_
            clear n0_ n1_ n2_
            have p206 : 0 ≤ (x6_1 : Int) := od
            have q206 : x6_1 < (l1.length : Int) := od
            obtain ⟨ad206,e206,hx206_0⟩ := Kd.at_string HR1.out x6_1 p206 q206
            have hw206_0 := hx206_0
            obtain rfl : ad201 = ad206 := (by injection e206)
            replace hx206_0 := cb HB.out hx206_0
            replace p206 := eq_true p206
            replace q206 := eq_true q206
            refine start_ (n:=30) (S:=fun w' => w'.cell? ⟨gb197,0,none⟩ = some (.int .i64 a0_0) ∧ w'.cell? ⟨gb197,1,none⟩ = some (.int .i64 a0_1) ∧ w'.cell? ⟨gb197,2,none⟩ = some (.slice A0_2 l0_2.length c0_2) ∧ w'.cell? ⟨gb197,3,none⟩ = some (.slice A0_3 l0_3.length c0_3) ∧ w'.cell? ⟨gb197,4,none⟩ = some (.int .i64 a0_4) ∧ w'.cell? ⟨gb197,5,none⟩ = some (.int .i64 a0_5) ∧ w'.cell? ⟨gb197,6,none⟩ = some (.int .i64 a0_6) ∧ w'.cell? ⟨gb197,7,none⟩ = some (.int .i64 a0_7) ∧ w'.cell? ⟨gb197,8,none⟩ = some (.int .i64 a0_8) ∧ w'.cell? ⟨gb197,9,none⟩ = some (.int .i64 a0_9) ∧ w'.cell? (ad201.add (x6_1).toNat) = some (.string (rdOf ByteArray.empty l1 x6_1))) (ds := []) (bm 30 0) (by kernel_rfl) rfl rfl ⟨bl BK197 0,bl BK197 1,bl BK197 2,bl BK197 3,bl BK197 4,bl BK197 5,bl BK197 6,bl BK197 7,bl BK197 8,bl BK197 9,(cb HB.out hw206_0)⟩ (fun hHeld => ?_); refine with_tabW spec_l07Orphans.tab6 spec_l07Orphans.bits6 (fun HT_ HW_ => ?_)
            generalize w25.drew = w26 at HO_5 BK197 HB hx206_0 hHeld ⊢
            refine pV_ 0 28 (bm 30 1) HT_.out ?_
            refine pV_ 1 29 (bm 30 3) HT_.out ?_
            refine pV_ 3 31 (bm 30 11) HT_.out ?_
            refine pV_ 4 32 (bm 30 27) HT_.out ?_
            refine pV_ 5 33 (bm 30 59) HT_.out ?_
            refine take_ (i:=2) (N:=some 30) (v:=?_) (a':=?_) (bm 30 63) rfl rfl (take_ofW HT_.out HW_.out (by kernel_rfl)) (fun _ _ _ h => h) (Or.inl ⟨by rfl,?_⟩) hHeld ?_ ?_
            rotate_left
            ·rintro w' ⟨s0,s1,s2,s3,s4,s5,s6,s7,s8,s9,s10⟩
             go_simp
             with_reducible rfl
            rotate_left
            ·simp only [Act.put,setIfInBounds_toArray,set_cons_zero,set_cons_succ,i64_w,i32_w]
             rfl
            refine take_ (i:=6) (N:=some 34) (v:=?_) (a':=?_) (bm 30 127) rfl rfl (take_ofW HT_.out HW_.out (by kernel_rfl)) (fun _ _ _ h => h) (Or.inl ⟨by rfl,?_⟩) hHeld ?_ ?_
            rotate_left
            ·rintro w' ⟨s0,s1,s2,s3,s4,s5,s6,s7,s8,s9,s10⟩
             go_simp
             with_reducible rfl
            rotate_left
            ·simp only [Act.put,setIfInBounds_toArray,set_cons_zero,set_cons_succ,i64_w,i32_w]
             rfl
            refine one_ (i:=7) (N:=some 35) (bm 30 255) rfl rfl (one_of HT_.out (by kernel_rfl)) (by decide) (fun K hK => ?_)
            refine goes_ Tryz.func38 (by kernel_rfl) rfl #[.agg #[.int .i64 a0_0,.int .i64 a0_1,.slice A0_2 l0_2.length c0_2,.slice A0_3 l0_3.length c0_3,.int .i64 a0_4,.int .i64 a0_5,.int .i64 a0_6,.int .i64 a0_7,.int .i64 a0_8,.int .i64 a0_9],.string (rdOf ByteArray.empty l1 x6_1)] (by rfl) rfl rfl mA ?_
            with_reducible refine (spec_l06Named.calls k1 a0_0 a0_1 _ _ l0_2 _ _ l0_3 a0_4 a0_5 a0_6 a0_7 a0_8 a0_9 (rdOf ByteArray.empty l1 x6_1) false _ ?side1 ?side2 ?side3 ?side4 A10.out).mono ?_
            (case side1 => exact sC HR0_2.out)
            (case side2 => exact HC0_2.out)
            (case side3 => exact sC HR0_3.out)
            (case side4 => exact HC0_3.out)
            rintro e w27 ⟨rfl,hb⟩
            refine ⟨_,rfl,?_⟩
            have n0_ := Aside0.mk (Kd.R_below (rA HO_5.out) hb)
            have n1_ := Aside0.mk (bb BK197.out hb)
            have n2_ := Aside0.mk (below_step bA hb)
            clear HO_5 BK197 HB
            have HO_5 := n0_
            have BK197 := n1_
            have HB := n2_
            clear n0_ n1_ n2_
            (try clear hb)
            (try clear hb2)
            (try clear hk)
            (try clear hi)
            refine hK.out _ _ ⟨bl BK197 0,bl BK197 1,bl BK197 2,bl BK197 3,bl BK197 4,bl BK197 5,bl BK197 6,bl BK197 7,bl BK197 8,bl BK197 9,(cb HB.out hw206_0)⟩ (fun hHeld => ?_)
            clear hK K
            refine norm_ (a':=?_) ?_ ?_
            rotate_left
            ·show Act.put _ (some 35) _ = _
             simp only [Act.put,setIfInBounds_toArray,set_cons_zero,set_cons_succ,i64_w,i32_w]
             rfl
            refine pV_ 8 36 (bm 30 511) HT_.out ?_
            refine pV_ 9 37 (bm 30 1023) HT_.out ?_
            refine pV_ 10 38 (bm 30 2047) HT_.out ?_
            refine pV_ 11 39 (bm 30 4095) HT_.out ?_
            refine pV_ 12 40 (bm 30 8191) HT_.out ?_
            refine pV_ 13 41 (bm 30 16383) HT_.out ?_
            refine pV_ 14 42 (bm 30 32767) HT_.out ?_
            refine pV_ 15 43 (bm 30 65535) HT_.out ?_
            refine take_ (i:=16) (N:=some 44) (v:=?_) (a':=?_) (bm 30 131071) rfl rfl (take_ofW HT_.out HW_.out (by kernel_rfl)) (fun _ _ _ h => h) (Or.inl ⟨by rfl,?_⟩) hHeld ?_ ?_
            rotate_left
            ·rintro w' ⟨s0,s1,s2,s3,s4,s5,s6,s7,s8,s9,s10⟩
             go_simp
             with_reducible rfl
            rotate_left
            ·simp only [Act.put,setIfInBounds_toArray,set_cons_zero,set_cons_succ,i64_w,i32_w]
             rfl
            refine pV_ 17 45 (bm 30 262143) HT_.out ?_
            refine pV_ 18 46 (bm 30 524287) HT_.out ?_
            refine pV_ 19 47 (bm 30 1048575) HT_.out ?_
            refine pV_ 20 48 (bm 30 2097151) HT_.out ?_
            refine pV_ 21 49 (bm 30 4194303) HT_.out ?_
            refine pV_ 22 50 (bm 30 8388607) HT_.out ?_
            refine pV_ 23 51 (bm 30 16777215) HT_.out ?_
            refine pV_ 24 52 (bm 30 33554431) HT_.out ?_
            refine take_ (i:=25) (N:=some 53) (v:=?_) (a':=?_) (bm 30 67108863) rfl rfl (take_ofW HT_.out HW_.out (by kernel_rfl)) (fun _ _ _ h => h) (Or.inl ⟨by rfl,?_⟩) hHeld ?_ ?_
            rotate_left
            ·rintro w' ⟨s0,s1,s2,s3,s4,s5,s6,s7,s8,s9,s10⟩
             go_simp
             with_reducible rfl
            rotate_left
            ·simp only [Act.put,setIfInBounds_toArray,set_cons_zero,set_cons_succ,i64_w,i32_w]
             rfl
            refine pV_ 26 54 (bm 30 134217727) HT_.out ?_
            refine pV_ 27 55 (bm 30 268435455) HT_.out ?_
            refine pV_ 28 56 (bm 30 536870911) HT_.out ?_
            refine pV_ 29 57 (bm 30 1073741823) HT_.out ?_
            refine done_ (done_of HT_.out (by kernel_rfl)) ?_
            have p212 : 0 ≤ (x6_1 : Int) := od
            have q212 : x6_1 < (l1.length : Int) := od
            obtain ⟨ad212,e212,hx212_0⟩ := Kd.at_string HR1.out x6_1 p212 q212
            obtain rfl : ad201 = ad212 := (by injection e212)
            replace hx212_0 := cb HB.out hx212_0
            replace p212 := eq_true p212
            replace q212 := eq_true q212
            try go_wp2_with (first | ((with_reducible refine gate_builtin (b:=.append) (xs := #[.tmp 58,.tmp 63]) rfl ?_); at_builtin; refine Kd.R_append Kd.string (w0 := w) w.heap.size rfl (.tmp 58) (.tmp 63) 27 9 (.string ⟨#[]⟩) 16 rfl Tryz.underlying27 info9 rfl (by decide) (by omega) u5 x5_1 (rdOf ByteArray.empty l1 x6_1) [.string (rdOf ByteArray.empty l1 x6_1)] (fun _ => True) (fun _ => False) rfl rfl ?aP (fun _ hk => hk.elim) ?aF ?aO ?aB ?aS ?aL ?_; (case aP => exact rfl); (case aB => exact bA); (case aF => exact (fun _ _ => trivial)); (case aO => exact (rA HO_5.out)); (case aS => exact (below_size bA)); (case aL => have := LMc24.out; omega); intro v214 w28 ho hb hg hat; rw [← Ny213.out] at ho; have n0_ := Aside0.mk (bg BK197.out hg (Kd.R_ne HO_5.out BK197.out (by decide))); have n1_ := Aside0.mk (hb); have n2_ := Aside0.mk (ho); clear BK197 HB HO_5; have BK197 := n0_; have HB := n1_; have HO215 := n2_; clear n0_ n1_ n2_; clear ho hb hg hat))
            go_roundg k1
            case measure => have := HK1.out; omega
            case rel => exact ⟨(y213),(wrap64 (x6_1 + 1)),(by first | rfl | (simp; done) | (simp [*]; done)),H',⟨by have := HK1.out; omega⟩,⟨rA HO215.out⟩,⟨kA BK197.out⟩,⟨bA⟩⟩
           ·rw [if_neg c24] at H
            exact absurd H (by simp)
          ·rw [if_neg c23] at H
           have c23b0 : decide (t204 < a0_1) = false := decide_eq_false c23
           clear c23
           have H' := Aside0.mk H
           clear H
           have p201 : 0 ≤ (x6_1 : Int) := od
           have q201 : x6_1 < (l1.length : Int) := od
           obtain ⟨ad201,e201,hx201_0⟩ := Kd.at_string HR1.out x6_1 p201 q201
           cases e201
           replace hx201_0 := cb HB.out hx201_0
           replace p201 := eq_true p201
           replace q201 := eq_true q201
           try go_wp2_with (first | ((with_reducible refine gate_callee (f:=37) rfl ?_); refine goesL_ (some 23) rfl rfl Tryz.func37 (by kernel_rfl) rfl #[.string (rdOf ByteArray.empty l1 x6_1)] rfl mA ?_; (with_reducible refine (spec_l03ToKey.calls k1 (rdOf ByteArray.empty l1 x6_1) t202 t203 t204 true _ A8.out).mono ?_); rintro e w29 ⟨rfl,hb⟩; refine ⟨_,rfl,?_⟩; have n0_ := Aside0.mk (Kd.R_below (rA HO_5.out) hb); have n1_ := Aside0.mk (bb BK197.out hb); have n2_ := Aside0.mk (below_step bA hb); clear HO_5 BK197 HB; have HO_5 := n0_; have BK197 := n1_; have HB := n2_; clear n0_ n1_ n2_; (try clear hb); (try clear hb2); (try clear hk); (try clear hi)))
           have n0_ := Aside0.mk (Kd.R_drew HO_5.out)
           have n1_ := Aside0.mk (blk_drew BK197.out)
           have n2_ := Aside0.mk (below_drew1 HB.out)
           clear HO_5 BK197 HB
           have HO_5 := n0_
           have BK197 := n1_
           have HB := n2_
           clear n0_ n1_ n2_
           have p206 : 0 ≤ (x6_1 : Int) := od
           have q206 : x6_1 < (l1.length : Int) := od
           obtain ⟨ad206,e206,hx206_0⟩ := Kd.at_string HR1.out x6_1 p206 q206
           have hw206_0 := hx206_0
           obtain rfl : ad201 = ad206 := (by injection e206)
           replace hx206_0 := cb HB.out hx206_0
           replace p206 := eq_true p206
           replace q206 := eq_true q206
           refine start_ (n:=30) (S:=fun w' => w'.cell? ⟨gb197,0,none⟩ = some (.int .i64 a0_0) ∧ w'.cell? ⟨gb197,1,none⟩ = some (.int .i64 a0_1) ∧ w'.cell? ⟨gb197,2,none⟩ = some (.slice A0_2 l0_2.length c0_2) ∧ w'.cell? ⟨gb197,3,none⟩ = some (.slice A0_3 l0_3.length c0_3) ∧ w'.cell? ⟨gb197,4,none⟩ = some (.int .i64 a0_4) ∧ w'.cell? ⟨gb197,5,none⟩ = some (.int .i64 a0_5) ∧ w'.cell? ⟨gb197,6,none⟩ = some (.int .i64 a0_6) ∧ w'.cell? ⟨gb197,7,none⟩ = some (.int .i64 a0_7) ∧ w'.cell? ⟨gb197,8,none⟩ = some (.int .i64 a0_8) ∧ w'.cell? ⟨gb197,9,none⟩ = some (.int .i64 a0_9) ∧ w'.cell? (ad201.add (x6_1).toNat) = some (.string (rdOf ByteArray.empty l1 x6_1))) (ds := []) (bm 30 0) (by kernel_rfl) rfl rfl ⟨bl BK197 0,bl BK197 1,bl BK197 2,bl BK197 3,bl BK197 4,bl BK197 5,bl BK197 6,bl BK197 7,bl BK197 8,bl BK197 9,(cb HB.out hw206_0)⟩ (fun hHeld => ?_); refine with_tabW spec_l07Orphans.tab6 spec_l07Orphans.bits6 (fun HT_ HW_ => ?_)
           generalize w29.drew = w30 at HO_5 BK197 HB hx206_0 hHeld ⊢
           refine pV_ 0 28 (bm 30 1) HT_.out ?_
           refine pV_ 1 29 (bm 30 3) HT_.out ?_
           refine pV_ 3 31 (bm 30 11) HT_.out ?_
           refine pV_ 4 32 (bm 30 27) HT_.out ?_
           refine pV_ 5 33 (bm 30 59) HT_.out ?_
           refine take_ (i:=2) (N:=some 30) (v:=?_) (a':=?_) (bm 30 63) rfl rfl (take_ofW HT_.out HW_.out (by kernel_rfl)) (fun _ _ _ h => h) (Or.inl ⟨by rfl,?_⟩) hHeld ?_ ?_
           rotate_left
           ·rintro w' ⟨s0,s1,s2,s3,s4,s5,s6,s7,s8,s9,s10⟩
            go_simp
            with_reducible rfl
           rotate_left
           ·simp only [Act.put,setIfInBounds_toArray,set_cons_zero,set_cons_succ,i64_w,i32_w]
            rfl
           refine take_ (i:=6) (N:=some 34) (v:=?_) (a':=?_) (bm 30 127) rfl rfl (take_ofW HT_.out HW_.out (by kernel_rfl)) (fun _ _ _ h => h) (Or.inl ⟨by rfl,?_⟩) hHeld ?_ ?_
           rotate_left
           ·rintro w' ⟨s0,s1,s2,s3,s4,s5,s6,s7,s8,s9,s10⟩
            go_simp
            with_reducible rfl
           rotate_left
           ·simp only [Act.put,setIfInBounds_toArray,set_cons_zero,set_cons_succ,i64_w,i32_w]
            rfl
           refine one_ (i:=7) (N:=some 35) (bm 30 255) rfl rfl (one_of HT_.out (by kernel_rfl)) (by decide) (fun K hK => ?_)
           refine goes_ Tryz.func38 (by kernel_rfl) rfl #[.agg #[.int .i64 a0_0,.int .i64 a0_1,.slice A0_2 l0_2.length c0_2,.slice A0_3 l0_3.length c0_3,.int .i64 a0_4,.int .i64 a0_5,.int .i64 a0_6,.int .i64 a0_7,.int .i64 a0_8,.int .i64 a0_9],.string (rdOf ByteArray.empty l1 x6_1)] (by rfl) rfl rfl mA ?_
           with_reducible refine (spec_l06Named.calls k1 a0_0 a0_1 _ _ l0_2 _ _ l0_3 a0_4 a0_5 a0_6 a0_7 a0_8 a0_9 (rdOf ByteArray.empty l1 x6_1) false _ ?side1 ?side2 ?side3 ?side4 A10.out).mono ?_
           (case side1 => exact sC HR0_2.out)
           (case side2 => exact HC0_2.out)
           (case side3 => exact sC HR0_3.out)
           (case side4 => exact HC0_3.out)
           rintro e w31 ⟨rfl,hb⟩
           refine ⟨_,rfl,?_⟩
           have n0_ := Aside0.mk (Kd.R_below (rA HO_5.out) hb)
           have n1_ := Aside0.mk (bb BK197.out hb)
           have n2_ := Aside0.mk (below_step bA hb)
           clear HO_5 BK197 HB
           have HO_5 := n0_
           have BK197 := n1_
           have HB := n2_
           clear n0_ n1_ n2_
           (try clear hb)
           (try clear hb2)
           (try clear hk)
           (try clear hi)
           refine hK.out _ _ ⟨bl BK197 0,bl BK197 1,bl BK197 2,bl BK197 3,bl BK197 4,bl BK197 5,bl BK197 6,bl BK197 7,bl BK197 8,bl BK197 9,(cb HB.out hw206_0)⟩ (fun hHeld => ?_)
           clear hK K
           refine norm_ (a':=?_) ?_ ?_
           rotate_left
           ·show Act.put _ (some 35) _ = _
            simp only [Act.put,setIfInBounds_toArray,set_cons_zero,set_cons_succ,i64_w,i32_w]
            rfl
           refine pV_ 8 36 (bm 30 511) HT_.out ?_
           refine pV_ 9 37 (bm 30 1023) HT_.out ?_
           refine pV_ 10 38 (bm 30 2047) HT_.out ?_
           refine pV_ 11 39 (bm 30 4095) HT_.out ?_
           refine pV_ 12 40 (bm 30 8191) HT_.out ?_
           refine pV_ 13 41 (bm 30 16383) HT_.out ?_
           refine pV_ 14 42 (bm 30 32767) HT_.out ?_
           refine pV_ 15 43 (bm 30 65535) HT_.out ?_
           refine take_ (i:=16) (N:=some 44) (v:=?_) (a':=?_) (bm 30 131071) rfl rfl (take_ofW HT_.out HW_.out (by kernel_rfl)) (fun _ _ _ h => h) (Or.inl ⟨by rfl,?_⟩) hHeld ?_ ?_
           rotate_left
           ·rintro w' ⟨s0,s1,s2,s3,s4,s5,s6,s7,s8,s9,s10⟩
            go_simp
            with_reducible rfl
           rotate_left
           ·simp only [Act.put,setIfInBounds_toArray,set_cons_zero,set_cons_succ,i64_w,i32_w]
            rfl
           refine pV_ 17 45 (bm 30 262143) HT_.out ?_
           refine pV_ 18 46 (bm 30 524287) HT_.out ?_
           refine pV_ 19 47 (bm 30 1048575) HT_.out ?_
           refine pV_ 20 48 (bm 30 2097151) HT_.out ?_
           refine pV_ 21 49 (bm 30 4194303) HT_.out ?_
           refine pV_ 22 50 (bm 30 8388607) HT_.out ?_
           refine pV_ 23 51 (bm 30 16777215) HT_.out ?_
           refine pV_ 24 52 (bm 30 33554431) HT_.out ?_
           refine take_ (i:=25) (N:=some 53) (v:=?_) (a':=?_) (bm 30 67108863) rfl rfl (take_ofW HT_.out HW_.out (by kernel_rfl)) (fun _ _ _ h => h) (Or.inl ⟨by rfl,?_⟩) hHeld ?_ ?_
           rotate_left
           ·rintro w' ⟨s0,s1,s2,s3,s4,s5,s6,s7,s8,s9,s10⟩
            go_simp
            with_reducible rfl
           rotate_left
           ·simp only [Act.put,setIfInBounds_toArray,set_cons_zero,set_cons_succ,i64_w,i32_w]
            rfl
           refine pV_ 26 54 (bm 30 134217727) HT_.out ?_
           refine pV_ 27 55 (bm 30 268435455) HT_.out ?_
           refine pV_ 28 56 (bm 30 536870911) HT_.out ?_
           refine pV_ 29 57 (bm 30 1073741823) HT_.out ?_
           refine done_ (done_of HT_.out (by kernel_rfl)) ?_
           try go_wp2
           go_roundg k1
           case measure => have := HK1.out; omega
           case rel => exact ⟨(x5_1),(wrap64 (x6_1 + 1)),(by first | rfl | (simp; done) | (simp [*]; done)),H',⟨by have := HK1.out; omega⟩,⟨rA HO_5.out⟩,⟨kA BK197.out⟩,⟨bA⟩⟩
         ·rw [if_neg c22] at H
          have c22b0 : decide (0 < t202) = false := decide_eq_false c22
          clear c22
          have H' := Aside0.mk H
          clear H
          have p201 : 0 ≤ (x6_1 : Int) := od
          have q201 : x6_1 < (l1.length : Int) := od
          obtain ⟨ad201,e201,hx201_0⟩ := Kd.at_string HR1.out x6_1 p201 q201
          cases e201
          replace hx201_0 := cb HB.out hx201_0
          replace p201 := eq_true p201
          replace q201 := eq_true q201
          try go_wp2_with (first | ((with_reducible refine gate_callee (f:=37) rfl ?_); refine goesL_ (some 23) rfl rfl Tryz.func37 (by kernel_rfl) rfl #[.string (rdOf ByteArray.empty l1 x6_1)] rfl mA ?_; (with_reducible refine (spec_l03ToKey.calls k1 (rdOf ByteArray.empty l1 x6_1) t202 t203 t204 true _ A8.out).mono ?_); rintro e w32 ⟨rfl,hb⟩; refine ⟨_,rfl,?_⟩; have n0_ := Aside0.mk (Kd.R_below (rA HO_5.out) hb); have n1_ := Aside0.mk (bb BK197.out hb); have n2_ := Aside0.mk (below_step bA hb); clear HO_5 BK197 HB; have HO_5 := n0_; have BK197 := n1_; have HB := n2_; clear n0_ n1_ n2_; (try clear hb); (try clear hb2); (try clear hk); (try clear hi)))
          have n0_ := Aside0.mk (Kd.R_drew HO_5.out)
          have n1_ := Aside0.mk (blk_drew BK197.out)
          have n2_ := Aside0.mk (below_drew1 HB.out)
          clear HO_5 BK197 HB
          have HO_5 := n0_
          have BK197 := n1_
          have HB := n2_
          clear n0_ n1_ n2_
          have p206 : 0 ≤ (x6_1 : Int) := od
          have q206 : x6_1 < (l1.length : Int) := od
          obtain ⟨ad206,e206,hx206_0⟩ := Kd.at_string HR1.out x6_1 p206 q206
          have hw206_0 := hx206_0
          obtain rfl : ad201 = ad206 := (by injection e206)
          replace hx206_0 := cb HB.out hx206_0
          replace p206 := eq_true p206
          replace q206 := eq_true q206
          refine start_ (n:=30) (S:=fun w' => w'.cell? ⟨gb197,0,none⟩ = some (.int .i64 a0_0) ∧ w'.cell? ⟨gb197,1,none⟩ = some (.int .i64 a0_1) ∧ w'.cell? ⟨gb197,2,none⟩ = some (.slice A0_2 l0_2.length c0_2) ∧ w'.cell? ⟨gb197,3,none⟩ = some (.slice A0_3 l0_3.length c0_3) ∧ w'.cell? ⟨gb197,4,none⟩ = some (.int .i64 a0_4) ∧ w'.cell? ⟨gb197,5,none⟩ = some (.int .i64 a0_5) ∧ w'.cell? ⟨gb197,6,none⟩ = some (.int .i64 a0_6) ∧ w'.cell? ⟨gb197,7,none⟩ = some (.int .i64 a0_7) ∧ w'.cell? ⟨gb197,8,none⟩ = some (.int .i64 a0_8) ∧ w'.cell? ⟨gb197,9,none⟩ = some (.int .i64 a0_9) ∧ w'.cell? (ad201.add (x6_1).toNat) = some (.string (rdOf ByteArray.empty l1 x6_1))) (ds := []) (bm 30 0) (by kernel_rfl) rfl rfl ⟨bl BK197 0,bl BK197 1,bl BK197 2,bl BK197 3,bl BK197 4,bl BK197 5,bl BK197 6,bl BK197 7,bl BK197 8,bl BK197 9,(cb HB.out hw206_0)⟩ (fun hHeld => ?_); refine with_tabW spec_l07Orphans.tab6 spec_l07Orphans.bits6 (fun HT_ HW_ => ?_)
          generalize w32.drew = w33 at HO_5 BK197 HB hx206_0 hHeld ⊢
          refine pV_ 0 28 (bm 30 1) HT_.out ?_
          refine pV_ 1 29 (bm 30 3) HT_.out ?_
          refine pV_ 3 31 (bm 30 11) HT_.out ?_
          refine pV_ 4 32 (bm 30 27) HT_.out ?_
          refine pV_ 5 33 (bm 30 59) HT_.out ?_
          refine take_ (i:=2) (N:=some 30) (v:=?_) (a':=?_) (bm 30 63) rfl rfl (take_ofW HT_.out HW_.out (by kernel_rfl)) (fun _ _ _ h => h) (Or.inl ⟨by rfl,?_⟩) hHeld ?_ ?_
          rotate_left
          ·rintro w' ⟨s0,s1,s2,s3,s4,s5,s6,s7,s8,s9,s10⟩
           go_simp
           with_reducible rfl
          rotate_left
          ·simp only [Act.put,setIfInBounds_toArray,set_cons_zero,set_cons_succ,i64_w,i32_w]
           rfl
          refine take_ (i:=6) (N:=some 34) (v:=?_) (a':=?_) (bm 30 127) rfl rfl (take_ofW HT_.out HW_.out (by kernel_rfl)) (fun _ _ _ h => h) (Or.inl ⟨by rfl,?_⟩) hHeld ?_ ?_
          rotate_left
          ·rintro w' ⟨s0,s1,s2,s3,s4,s5,s6,s7,s8,s9,s10⟩
           go_simp
           with_reducible rfl
          rotate_left
          ·simp only [Act.put,setIfInBounds_toArray,set_cons_zero,set_cons_succ,i64_w,i32_w]
           rfl
          refine one_ (i:=7) (N:=some 35) (bm 30 255) rfl rfl (one_of HT_.out (by kernel_rfl)) (by decide) (fun K hK => ?_)
          refine goes_ Tryz.func38 (by kernel_rfl) rfl #[.agg #[.int .i64 a0_0,.int .i64 a0_1,.slice A0_2 l0_2.length c0_2,.slice A0_3 l0_3.length c0_3,.int .i64 a0_4,.int .i64 a0_5,.int .i64 a0_6,.int .i64 a0_7,.int .i64 a0_8,.int .i64 a0_9],.string (rdOf ByteArray.empty l1 x6_1)] (by rfl) rfl rfl mA ?_
          with_reducible refine (spec_l06Named.calls k1 a0_0 a0_1 _ _ l0_2 _ _ l0_3 a0_4 a0_5 a0_6 a0_7 a0_8 a0_9 (rdOf ByteArray.empty l1 x6_1) false _ ?side1 ?side2 ?side3 ?side4 A10.out).mono ?_
          (case side1 => exact sC HR0_2.out)
          (case side2 => exact HC0_2.out)
          (case side3 => exact sC HR0_3.out)
          (case side4 => exact HC0_3.out)
          rintro e w34 ⟨rfl,hb⟩
          refine ⟨_,rfl,?_⟩
          have n0_ := Aside0.mk (Kd.R_below (rA HO_5.out) hb)
          have n1_ := Aside0.mk (bb BK197.out hb)
          have n2_ := Aside0.mk (below_step bA hb)
          clear HO_5 BK197 HB
          have HO_5 := n0_
          have BK197 := n1_
          have HB := n2_
          clear n0_ n1_ n2_
          (try clear hb)
          (try clear hb2)
          (try clear hk)
          (try clear hi)
          refine hK.out _ _ ⟨bl BK197 0,bl BK197 1,bl BK197 2,bl BK197 3,bl BK197 4,bl BK197 5,bl BK197 6,bl BK197 7,bl BK197 8,bl BK197 9,(cb HB.out hw206_0)⟩ (fun hHeld => ?_)
          clear hK K
          refine norm_ (a':=?_) ?_ ?_
          rotate_left
          ·show Act.put _ (some 35) _ = _
           simp only [Act.put,setIfInBounds_toArray,set_cons_zero,set_cons_succ,i64_w,i32_w]
           rfl
          refine pV_ 8 36 (bm 30 511) HT_.out ?_
          refine pV_ 9 37 (bm 30 1023) HT_.out ?_
          refine pV_ 10 38 (bm 30 2047) HT_.out ?_
          refine pV_ 11 39 (bm 30 4095) HT_.out ?_
          refine pV_ 12 40 (bm 30 8191) HT_.out ?_
          refine pV_ 13 41 (bm 30 16383) HT_.out ?_
          refine pV_ 14 42 (bm 30 32767) HT_.out ?_
          refine pV_ 15 43 (bm 30 65535) HT_.out ?_
          refine take_ (i:=16) (N:=some 44) (v:=?_) (a':=?_) (bm 30 131071) rfl rfl (take_ofW HT_.out HW_.out (by kernel_rfl)) (fun _ _ _ h => h) (Or.inl ⟨by rfl,?_⟩) hHeld ?_ ?_
          rotate_left
          ·rintro w' ⟨s0,s1,s2,s3,s4,s5,s6,s7,s8,s9,s10⟩
           go_simp
           with_reducible rfl
          rotate_left
          ·simp only [Act.put,setIfInBounds_toArray,set_cons_zero,set_cons_succ,i64_w,i32_w]
           rfl
          refine pV_ 17 45 (bm 30 262143) HT_.out ?_
          refine pV_ 18 46 (bm 30 524287) HT_.out ?_
          refine pV_ 19 47 (bm 30 1048575) HT_.out ?_
          refine pV_ 20 48 (bm 30 2097151) HT_.out ?_
          refine pV_ 21 49 (bm 30 4194303) HT_.out ?_
          refine pV_ 22 50 (bm 30 8388607) HT_.out ?_
          refine pU_ 23 51 (bm 30 16777215) HT_.out ?_
          refine pU_ 24 52 (bm 30 33554431) HT_.out ?_
          refine pU_ 25 53 (bm 30 67108863) HT_.out ?_
          refine pU_ 26 54 (bm 30 134217727) HT_.out ?_
          refine pV_ 27 55 (bm 30 268435455) HT_.out ?_
          refine pV_ 28 56 (bm 30 536870911) HT_.out ?_
          refine pV_ 29 57 (bm 30 1073741823) HT_.out ?_
          refine done_ (done_of HT_.out (by kernel_rfl)) ?_
          try go_wp2
          go_roundg k1
          case measure => have := HK1.out; omega
          case rel => exact ⟨(x5_1),(wrap64 (x6_1 + 1)),(by first | rfl | (simp; done) | (simp [*]; done)),H',⟨by have := HK1.out; omega⟩,⟨rA HO_5.out⟩,⟨kA BK197.out⟩,⟨bA⟩⟩
       ·rw [if_neg c15] at H
        have c15b0 : (t202 == 0) = false := beq_eq_false_iff_ne.mpr c15
        have c15b1 : (t202 != 0) = true := bne_iff_ne.mpr c15
        by_cases c35 : t202 > 0
        ·rw [if_pos c35] at H
         have c35b0 : decide (0 < t202) = true := decide_eq_true c35
         clear c35
         by_cases c36 : t204 < a0_1
         ·rw [if_pos c36] at H
          have c36b0 : decide (t204 < a0_1) = true := decide_eq_true c36
          clear c36
          by_cases c37 : x5_1.length < 8796093022208
          ·rw [if_pos c37] at H
           have LMc37 := Aside0.mk c37
           clear c37
           obtain ⟨y217,hy217⟩ : ∃ y_ : List ByteArray,y_ = (x5_1 ++ [rdOf ByteArray.empty l1 x6_1]) := ⟨_,rfl⟩
           replace H : (spec_l07Orphans.l0 k1 l1 y217 (wrap64 (x6_1 + 1)) a0_0 a0_1 l0_2 l0_3 a0_4 a0_5 a0_6 a0_7 a0_8 a0_9) = some r := by first | (rw [hy217]; with_reducible exact H) | (have H2_ := (Option.bind_some _ _).symm.trans H; rw [hy217]; with_reducible exact H2_) | (have H2_ := (Option.bind_some _ _).symm.trans H; with_reducible exact H2_) | with_reducible exact H | (rw [hy217]; exact H) | exact H
           have Ny217 := Aside0.mk hy217
           clear hy217
           have H' := Aside0.mk H
           clear H
           have p201 : 0 ≤ (x6_1 : Int) := od
           have q201 : x6_1 < (l1.length : Int) := od
           obtain ⟨ad201,e201,hx201_0⟩ := Kd.at_string HR1.out x6_1 p201 q201
           cases e201
           replace hx201_0 := cb HB.out hx201_0
           replace p201 := eq_true p201
           replace q201 := eq_true q201
           try go_wp2_with (first | ((with_reducible refine gate_callee (f:=37) rfl ?_); refine goesL_ (some 23) rfl rfl Tryz.func37 (by kernel_rfl) rfl #[.string (rdOf ByteArray.empty l1 x6_1)] rfl mA ?_; (with_reducible refine (spec_l03ToKey.calls k1 (rdOf ByteArray.empty l1 x6_1) t202 t203 t204 true _ A8.out).mono ?_); rintro e w38 ⟨rfl,hb⟩; refine ⟨_,rfl,?_⟩; have n0_ := Aside0.mk (Kd.R_below (rA HO_5.out) hb); have n1_ := Aside0.mk (bb BK197.out hb); have n2_ := Aside0.mk (below_step bA hb); clear HO_5 BK197 HB; have HO_5 := n0_; have BK197 := n1_; have HB := n2_; clear n0_ n1_ n2_; (try clear hb); (try clear hb2); (try clear hk); (try clear hi)))
           have n0_ := Aside0.mk (Kd.R_drew HO_5.out)
           have n1_ := Aside0.mk (blk_drew BK197.out)
           have n2_ := Aside0.mk (below_drew1 HB.out)
           clear HO_5 BK197 HB
           have HO_5 := n0_
           have BK197 := n1_
           have HB := n2_
           clear n0_ n1_ n2_
           have p206 : 0 ≤ (x6_1 : Int) := od
           have q206 : x6_1 < (l1.length : Int) := od
           obtain ⟨ad206,e206,hx206_0⟩ := Kd.at_string HR1.out x6_1 p206 q206
           have hw206_0 := hx206_0
           obtain rfl : ad201 = ad206 := (by injection e206)
           replace hx206_0 := cb HB.out hx206_0
           replace p206 := eq_true p206
           replace q206 := eq_true q206
           refine start_ (n:=30) (S:=fun w' => w'.cell? ⟨gb197,0,none⟩ = some (.int .i64 a0_0) ∧ w'.cell? ⟨gb197,1,none⟩ = some (.int .i64 a0_1) ∧ w'.cell? ⟨gb197,2,none⟩ = some (.slice A0_2 l0_2.length c0_2) ∧ w'.cell? ⟨gb197,3,none⟩ = some (.slice A0_3 l0_3.length c0_3) ∧ w'.cell? ⟨gb197,4,none⟩ = some (.int .i64 a0_4) ∧ w'.cell? ⟨gb197,5,none⟩ = some (.int .i64 a0_5) ∧ w'.cell? ⟨gb197,6,none⟩ = some (.int .i64 a0_6) ∧ w'.cell? ⟨gb197,7,none⟩ = some (.int .i64 a0_7) ∧ w'.cell? ⟨gb197,8,none⟩ = some (.int .i64 a0_8) ∧ w'.cell? ⟨gb197,9,none⟩ = some (.int .i64 a0_9) ∧ w'.cell? (ad201.add (x6_1).toNat) = some (.string (rdOf ByteArray.empty l1 x6_1))) (ds := []) (bm 30 0) (by kernel_rfl) rfl rfl ⟨bl BK197 0,bl BK197 1,bl BK197 2,bl BK197 3,bl BK197 4,bl BK197 5,bl BK197 6,bl BK197 7,bl BK197 8,bl BK197 9,(cb HB.out hw206_0)⟩ (fun hHeld => ?_); refine with_tabW spec_l07Orphans.tab6 spec_l07Orphans.bits6 (fun HT_ HW_ => ?_)
           generalize w38.drew = w39 at HO_5 BK197 HB hx206_0 hHeld ⊢
           refine pV_ 0 28 (bm 30 1) HT_.out ?_
           refine pV_ 1 29 (bm 30 3) HT_.out ?_
           refine pV_ 3 31 (bm 30 11) HT_.out ?_
           refine pV_ 4 32 (bm 30 27) HT_.out ?_
           refine pV_ 5 33 (bm 30 59) HT_.out ?_
           refine take_ (i:=2) (N:=some 30) (v:=?_) (a':=?_) (bm 30 63) rfl rfl (take_ofW HT_.out HW_.out (by kernel_rfl)) (fun _ _ _ h => h) (Or.inl ⟨by rfl,?_⟩) hHeld ?_ ?_
           rotate_left
           ·rintro w' ⟨s0,s1,s2,s3,s4,s5,s6,s7,s8,s9,s10⟩
            go_simp
            with_reducible rfl
           rotate_left
           ·simp only [Act.put,setIfInBounds_toArray,set_cons_zero,set_cons_succ,i64_w,i32_w]
            rfl
           refine take_ (i:=6) (N:=some 34) (v:=?_) (a':=?_) (bm 30 127) rfl rfl (take_ofW HT_.out HW_.out (by kernel_rfl)) (fun _ _ _ h => h) (Or.inl ⟨by rfl,?_⟩) hHeld ?_ ?_
           rotate_left
           ·rintro w' ⟨s0,s1,s2,s3,s4,s5,s6,s7,s8,s9,s10⟩
            go_simp
            with_reducible rfl
           rotate_left
           ·simp only [Act.put,setIfInBounds_toArray,set_cons_zero,set_cons_succ,i64_w,i32_w]
            rfl
           refine one_ (i:=7) (N:=some 35) (bm 30 255) rfl rfl (one_of HT_.out (by kernel_rfl)) (by decide) (fun K hK => ?_)
           refine goes_ Tryz.func38 (by kernel_rfl) rfl #[.agg #[.int .i64 a0_0,.int .i64 a0_1,.slice A0_2 l0_2.length c0_2,.slice A0_3 l0_3.length c0_3,.int .i64 a0_4,.int .i64 a0_5,.int .i64 a0_6,.int .i64 a0_7,.int .i64 a0_8,.int .i64 a0_9],.string (rdOf ByteArray.empty l1 x6_1)] (by rfl) rfl rfl mA ?_
           with_reducible refine (spec_l06Named.calls k1 a0_0 a0_1 _ _ l0_2 _ _ l0_3 a0_4 a0_5 a0_6 a0_7 a0_8 a0_9 (rdOf ByteArray.empty l1 x6_1) false _ ?side1 ?side2 ?side3 ?side4 A10.out).mono ?_
           (case side1 => exact sC HR0_2.out)
           (case side2 => exact HC0_2.out)
           (case side3 => exact sC HR0_3.out)
           (case side4 => exact HC0_3.out)
           rintro e w40 ⟨rfl,hb⟩
           refine ⟨_,rfl,?_⟩
           have n0_ := Aside0.mk (Kd.R_below (rA HO_5.out) hb)
           have n1_ := Aside0.mk (bb BK197.out hb)
           have n2_ := Aside0.mk (below_step bA hb)
           clear HO_5 BK197 HB
           have HO_5 := n0_
           have BK197 := n1_
           have HB := n2_
           clear n0_ n1_ n2_
           (try clear hb)
           (try clear hb2)
           (try clear hk)
           (try clear hi)
           refine hK.out _ _ ⟨bl BK197 0,bl BK197 1,bl BK197 2,bl BK197 3,bl BK197 4,bl BK197 5,bl BK197 6,bl BK197 7,bl BK197 8,bl BK197 9,(cb HB.out hw206_0)⟩ (fun hHeld => ?_)
           clear hK K
           refine norm_ (a':=?_) ?_ ?_
           rotate_left
           ·show Act.put _ (some 35) _ = _
            simp only [Act.put,setIfInBounds_toArray,set_cons_zero,set_cons_succ,i64_w,i32_w]
            rfl
           refine pV_ 8 36 (bm 30 511) HT_.out ?_
           refine pV_ 9 37 (bm 30 1023) HT_.out ?_
           refine pV_ 10 38 (bm 30 2047) HT_.out ?_
           refine pV_ 11 39 (bm 30 4095) HT_.out ?_
           refine pV_ 12 40 (bm 30 8191) HT_.out ?_
           refine pV_ 13 41 (bm 30 16383) HT_.out ?_
           refine pU_ 14 42 (bm 30 32767) HT_.out ?_
           refine pU_ 15 43 (bm 30 65535) HT_.out ?_
           refine pU_ 16 44 (bm 30 131071) HT_.out ?_
           refine pU_ 17 45 (bm 30 262143) HT_.out ?_
           refine pV_ 18 46 (bm 30 524287) HT_.out ?_
           refine pV_ 19 47 (bm 30 1048575) HT_.out ?_
           refine pV_ 20 48 (bm 30 2097151) HT_.out ?_
           refine pV_ 21 49 (bm 30 4194303) HT_.out ?_
           refine pV_ 22 50 (bm 30 8388607) HT_.out ?_
           refine pV_ 23 51 (bm 30 16777215) HT_.out ?_
           refine pV_ 24 52 (bm 30 33554431) HT_.out ?_
           refine take_ (i:=25) (N:=some 53) (v:=?_) (a':=?_) (bm 30 67108863) rfl rfl (take_ofW HT_.out HW_.out (by kernel_rfl)) (fun _ _ _ h => h) (Or.inl ⟨by rfl,?_⟩) hHeld ?_ ?_
           rotate_left
           ·rintro w' ⟨s0,s1,s2,s3,s4,s5,s6,s7,s8,s9,s10⟩
            go_simp
            with_reducible rfl
           rotate_left
           ·simp only [Act.put,setIfInBounds_toArray,set_cons_zero,set_cons_succ,i64_w,i32_w]
            rfl
           refine pV_ 26 54 (bm 30 134217727) HT_.out ?_
           refine pV_ 27 55 (bm 30 268435455) HT_.out ?_
           refine pV_ 28 56 (bm 30 536870911) HT_.out ?_
           refine pV_ 29 57 (bm 30 1073741823) HT_.out ?_
           refine done_ (done_of HT_.out (by kernel_rfl)) ?_
           have p216 : 0 ≤ (x6_1 : Int) := od
           have q216 : x6_1 < (l1.length : Int) := od
           obtain ⟨ad216,e216,hx216_0⟩ := Kd.at_string HR1.out x6_1 p216 q216
           obtain rfl : ad201 = ad216 := (by injection e216)
           replace hx216_0 := cb HB.out hx216_0
           replace p216 := eq_true p216
           replace q216 := eq_true q216
           try go_wp2_with (first | ((with_reducible refine gate_builtin (b:=.append) (xs := #[.tmp 58,.tmp 63]) rfl ?_); at_builtin; refine Kd.R_append Kd.string (w0 := w) w.heap.size rfl (.tmp 58) (.tmp 63) 27 9 (.string ⟨#[]⟩) 16 rfl Tryz.underlying27 info9 rfl (by decide) (by omega) u5 x5_1 (rdOf ByteArray.empty l1 x6_1) [.string (rdOf ByteArray.empty l1 x6_1)] (fun _ => True) (fun _ => False) rfl rfl ?aP (fun _ hk => hk.elim) ?aF ?aO ?aB ?aS ?aL ?_; (case aP => exact rfl); (case aB => exact bA); (case aF => exact (fun _ _ => trivial)); (case aO => exact (rA HO_5.out)); (case aS => exact (below_size bA)); (case aL => have := LMc37.out; omega); intro v218 w41 ho hb hg hat; rw [← Ny217.out] at ho; have n0_ := Aside0.mk (bg BK197.out hg (Kd.R_ne HO_5.out BK197.out (by decide))); have n1_ := Aside0.mk (hb); have n2_ := Aside0.mk (ho); clear BK197 HB HO_5; have BK197 := n0_; have HB := n1_; have HO219 := n2_; clear n0_ n1_ n2_; clear ho hb hg hat))
           go_roundg k1
           case measure => have := HK1.out; omega
           case rel => exact ⟨(y217),(wrap64 (x6_1 + 1)),(by first | rfl | (simp; done) | (simp [*]; done)),H',⟨by have := HK1.out; omega⟩,⟨rA HO219.out⟩,⟨kA BK197.out⟩,⟨bA⟩⟩
          ·rw [if_neg c37] at H
           exact absurd H (by simp)
         ·rw [if_neg c36] at H
          have c36b0 : decide (t204 < a0_1) = false := decide_eq_false c36
          clear c36
          have H' := Aside0.mk H
          clear H
          have p201 : 0 ≤ (x6_1 : Int) := od
          have q201 : x6_1 < (l1.length : Int) := od
          obtain ⟨ad201,e201,hx201_0⟩ := Kd.at_string HR1.out x6_1 p201 q201
          cases e201
          replace hx201_0 := cb HB.out hx201_0
          replace p201 := eq_true p201
          replace q201 := eq_true q201
          try go_wp2_with (first | ((with_reducible refine gate_callee (f:=37) rfl ?_); refine goesL_ (some 23) rfl rfl Tryz.func37 (by kernel_rfl) rfl #[.string (rdOf ByteArray.empty l1 x6_1)] rfl mA ?_; (with_reducible refine (spec_l03ToKey.calls k1 (rdOf ByteArray.empty l1 x6_1) t202 t203 t204 true _ A8.out).mono ?_); rintro e w42 ⟨rfl,hb⟩; refine ⟨_,rfl,?_⟩; have n0_ := Aside0.mk (Kd.R_below (rA HO_5.out) hb); have n1_ := Aside0.mk (bb BK197.out hb); have n2_ := Aside0.mk (below_step bA hb); clear HO_5 BK197 HB; have HO_5 := n0_; have BK197 := n1_; have HB := n2_; clear n0_ n1_ n2_; (try clear hb); (try clear hb2); (try clear hk); (try clear hi)))
          have n0_ := Aside0.mk (Kd.R_drew HO_5.out)
          have n1_ := Aside0.mk (blk_drew BK197.out)
          have n2_ := Aside0.mk (below_drew1 HB.out)
          clear HO_5 BK197 HB
          have HO_5 := n0_
          have BK197 := n1_
          have HB := n2_
          clear n0_ n1_ n2_
          have p206 : 0 ≤ (x6_1 : Int) := od
          have q206 : x6_1 < (l1.length : Int) := od
          obtain ⟨ad206,e206,hx206_0⟩ := Kd.at_string HR1.out x6_1 p206 q206
          have hw206_0 := hx206_0
          obtain rfl : ad201 = ad206 := (by injection e206)
          replace hx206_0 := cb HB.out hx206_0
          replace p206 := eq_true p206
          replace q206 := eq_true q206
          refine start_ (n:=30) (S:=fun w' => w'.cell? ⟨gb197,0,none⟩ = some (.int .i64 a0_0) ∧ w'.cell? ⟨gb197,1,none⟩ = some (.int .i64 a0_1) ∧ w'.cell? ⟨gb197,2,none⟩ = some (.slice A0_2 l0_2.length c0_2) ∧ w'.cell? ⟨gb197,3,none⟩ = some (.slice A0_3 l0_3.length c0_3) ∧ w'.cell? ⟨gb197,4,none⟩ = some (.int .i64 a0_4) ∧ w'.cell? ⟨gb197,5,none⟩ = some (.int .i64 a0_5) ∧ w'.cell? ⟨gb197,6,none⟩ = some (.int .i64 a0_6) ∧ w'.cell? ⟨gb197,7,none⟩ = some (.int .i64 a0_7) ∧ w'.cell? ⟨gb197,8,none⟩ = some (.int .i64 a0_8) ∧ w'.cell? ⟨gb197,9,none⟩ = some (.int .i64 a0_9) ∧ w'.cell? (ad201.add (x6_1).toNat) = some (.string (rdOf ByteArray.empty l1 x6_1))) (ds := []) (bm 30 0) (by kernel_rfl) rfl rfl ⟨bl BK197 0,bl BK197 1,bl BK197 2,bl BK197 3,bl BK197 4,bl BK197 5,bl BK197 6,bl BK197 7,bl BK197 8,bl BK197 9,(cb HB.out hw206_0)⟩ (fun hHeld => ?_); refine with_tabW spec_l07Orphans.tab6 spec_l07Orphans.bits6 (fun HT_ HW_ => ?_)
          generalize w42.drew = w43 at HO_5 BK197 HB hx206_0 hHeld ⊢
          refine pV_ 0 28 (bm 30 1) HT_.out ?_
          refine pV_ 1 29 (bm 30 3) HT_.out ?_
          refine pV_ 3 31 (bm 30 11) HT_.out ?_
          refine pV_ 4 32 (bm 30 27) HT_.out ?_
          refine pV_ 5 33 (bm 30 59) HT_.out ?_
          refine take_ (i:=2) (N:=some 30) (v:=?_) (a':=?_) (bm 30 63) rfl rfl (take_ofW HT_.out HW_.out (by kernel_rfl)) (fun _ _ _ h => h) (Or.inl ⟨by rfl,?_⟩) hHeld ?_ ?_
          rotate_left
          ·rintro w' ⟨s0,s1,s2,s3,s4,s5,s6,s7,s8,s9,s10⟩
           go_simp
           with_reducible rfl
          rotate_left
          ·simp only [Act.put,setIfInBounds_toArray,set_cons_zero,set_cons_succ,i64_w,i32_w]
           rfl
          refine take_ (i:=6) (N:=some 34) (v:=?_) (a':=?_) (bm 30 127) rfl rfl (take_ofW HT_.out HW_.out (by kernel_rfl)) (fun _ _ _ h => h) (Or.inl ⟨by rfl,?_⟩) hHeld ?_ ?_
          rotate_left
          ·rintro w' ⟨s0,s1,s2,s3,s4,s5,s6,s7,s8,s9,s10⟩
           go_simp
           with_reducible rfl
          rotate_left
          ·simp only [Act.put,setIfInBounds_toArray,set_cons_zero,set_cons_succ,i64_w,i32_w]
           rfl
          refine one_ (i:=7) (N:=some 35) (bm 30 255) rfl rfl (one_of HT_.out (by kernel_rfl)) (by decide) (fun K hK => ?_)
          refine goes_ Tryz.func38 (by kernel_rfl) rfl #[.agg #[.int .i64 a0_0,.int .i64 a0_1,.slice A0_2 l0_2.length c0_2,.slice A0_3 l0_3.length c0_3,.int .i64 a0_4,.int .i64 a0_5,.int .i64 a0_6,.int .i64 a0_7,.int .i64 a0_8,.int .i64 a0_9],.string (rdOf ByteArray.empty l1 x6_1)] (by rfl) rfl rfl mA ?_
          with_reducible refine (spec_l06Named.calls k1 a0_0 a0_1 _ _ l0_2 _ _ l0_3 a0_4 a0_5 a0_6 a0_7 a0_8 a0_9 (rdOf ByteArray.empty l1 x6_1) false _ ?side1 ?side2 ?side3 ?side4 A10.out).mono ?_
          (case side1 => exact sC HR0_2.out)
          (case side2 => exact HC0_2.out)
          (case side3 => exact sC HR0_3.out)
          (case side4 => exact HC0_3.out)
          rintro e w44 ⟨rfl,hb⟩
          refine ⟨_,rfl,?_⟩
          have n0_ := Aside0.mk (Kd.R_below (rA HO_5.out) hb)
          have n1_ := Aside0.mk (bb BK197.out hb)
          have n2_ := Aside0.mk (below_step bA hb)
          clear HO_5 BK197 HB
          have HO_5 := n0_
          have BK197 := n1_
          have HB := n2_
          clear n0_ n1_ n2_
          (try clear hb)
          (try clear hb2)
          (try clear hk)
          (try clear hi)
          refine hK.out _ _ ⟨bl BK197 0,bl BK197 1,bl BK197 2,bl BK197 3,bl BK197 4,bl BK197 5,bl BK197 6,bl BK197 7,bl BK197 8,bl BK197 9,(cb HB.out hw206_0)⟩ (fun hHeld => ?_)
          clear hK K
          refine norm_ (a':=?_) ?_ ?_
          rotate_left
          ·show Act.put _ (some 35) _ = _
           simp only [Act.put,setIfInBounds_toArray,set_cons_zero,set_cons_succ,i64_w,i32_w]
           rfl
          refine pV_ 8 36 (bm 30 511) HT_.out ?_
          refine pV_ 9 37 (bm 30 1023) HT_.out ?_
          refine pV_ 10 38 (bm 30 2047) HT_.out ?_
          refine pV_ 11 39 (bm 30 4095) HT_.out ?_
          refine pV_ 12 40 (bm 30 8191) HT_.out ?_
          refine pV_ 13 41 (bm 30 16383) HT_.out ?_
          refine pU_ 14 42 (bm 30 32767) HT_.out ?_
          refine pU_ 15 43 (bm 30 65535) HT_.out ?_
          refine pU_ 16 44 (bm 30 131071) HT_.out ?_
          refine pU_ 17 45 (bm 30 262143) HT_.out ?_
          refine pV_ 18 46 (bm 30 524287) HT_.out ?_
          refine pV_ 19 47 (bm 30 1048575) HT_.out ?_
          refine pV_ 20 48 (bm 30 2097151) HT_.out ?_
          refine pV_ 21 49 (bm 30 4194303) HT_.out ?_
          refine pV_ 22 50 (bm 30 8388607) HT_.out ?_
          refine pV_ 23 51 (bm 30 16777215) HT_.out ?_
          refine pV_ 24 52 (bm 30 33554431) HT_.out ?_
          refine take_ (i:=25) (N:=some 53) (v:=?_) (a':=?_) (bm 30 67108863) rfl rfl (take_ofW HT_.out HW_.out (by kernel_rfl)) (fun _ _ _ h => h) (Or.inl ⟨by rfl,?_⟩) hHeld ?_ ?_
          rotate_left
          ·rintro w' ⟨s0,s1,s2,s3,s4,s5,s6,s7,s8,s9,s10⟩
           go_simp
           with_reducible rfl
          rotate_left
          ·simp only [Act.put,setIfInBounds_toArray,set_cons_zero,set_cons_succ,i64_w,i32_w]
           rfl
          refine pV_ 26 54 (bm 30 134217727) HT_.out ?_
          refine pV_ 27 55 (bm 30 268435455) HT_.out ?_
          refine pV_ 28 56 (bm 30 536870911) HT_.out ?_
          refine pV_ 29 57 (bm 30 1073741823) HT_.out ?_
          refine done_ (done_of HT_.out (by kernel_rfl)) ?_
          try go_wp2
          go_roundg k1
          case measure => have := HK1.out; omega
          case rel => exact ⟨(x5_1),(wrap64 (x6_1 + 1)),(by first | rfl | (simp; done) | (simp [*]; done)),H',⟨by have := HK1.out; omega⟩,⟨rA HO_5.out⟩,⟨kA BK197.out⟩,⟨bA⟩⟩
        ·rw [if_neg c35] at H
         have c35b0 : decide (0 < t202) = false := decide_eq_false c35
         clear c35
         have H' := Aside0.mk H
         clear H
         have p201 : 0 ≤ (x6_1 : Int) := od
         have q201 : x6_1 < (l1.length : Int) := od
         obtain ⟨ad201,e201,hx201_0⟩ := Kd.at_string HR1.out x6_1 p201 q201
         cases e201
         replace hx201_0 := cb HB.out hx201_0
         replace p201 := eq_true p201
         replace q201 := eq_true q201
         try go_wp2_with (first | ((with_reducible refine gate_callee (f:=37) rfl ?_); refine goesL_ (some 23) rfl rfl Tryz.func37 (by kernel_rfl) rfl #[.string (rdOf ByteArray.empty l1 x6_1)] rfl mA ?_; (with_reducible refine (spec_l03ToKey.calls k1 (rdOf ByteArray.empty l1 x6_1) t202 t203 t204 true _ A8.out).mono ?_); rintro e w45 ⟨rfl,hb⟩; refine ⟨_,rfl,?_⟩; have n0_ := Aside0.mk (Kd.R_below (rA HO_5.out) hb); have n1_ := Aside0.mk (bb BK197.out hb); have n2_ := Aside0.mk (below_step bA hb); clear HO_5 BK197 HB; have HO_5 := n0_; have BK197 := n1_; have HB := n2_; clear n0_ n1_ n2_; (try clear hb); (try clear hb2); (try clear hk); (try clear hi)))
         have n0_ := Aside0.mk (Kd.R_drew HO_5.out)
         have n1_ := Aside0.mk (blk_drew BK197.out)
         have n2_ := Aside0.mk (below_drew1 HB.out)
         clear HO_5 BK197 HB
         have HO_5 := n0_
         have BK197 := n1_
         have HB := n2_
         clear n0_ n1_ n2_
         have p206 : 0 ≤ (x6_1 : Int) := od
         have q206 : x6_1 < (l1.length : Int) := od
         obtain ⟨ad206,e206,hx206_0⟩ := Kd.at_string HR1.out x6_1 p206 q206
         have hw206_0 := hx206_0
         obtain rfl : ad201 = ad206 := (by injection e206)
         replace hx206_0 := cb HB.out hx206_0
         replace p206 := eq_true p206
         replace q206 := eq_true q206
         refine start_ (n:=30) (S:=fun w' => w'.cell? ⟨gb197,0,none⟩ = some (.int .i64 a0_0) ∧ w'.cell? ⟨gb197,1,none⟩ = some (.int .i64 a0_1) ∧ w'.cell? ⟨gb197,2,none⟩ = some (.slice A0_2 l0_2.length c0_2) ∧ w'.cell? ⟨gb197,3,none⟩ = some (.slice A0_3 l0_3.length c0_3) ∧ w'.cell? ⟨gb197,4,none⟩ = some (.int .i64 a0_4) ∧ w'.cell? ⟨gb197,5,none⟩ = some (.int .i64 a0_5) ∧ w'.cell? ⟨gb197,6,none⟩ = some (.int .i64 a0_6) ∧ w'.cell? ⟨gb197,7,none⟩ = some (.int .i64 a0_7) ∧ w'.cell? ⟨gb197,8,none⟩ = some (.int .i64 a0_8) ∧ w'.cell? ⟨gb197,9,none⟩ = some (.int .i64 a0_9) ∧ w'.cell? (ad201.add (x6_1).toNat) = some (.string (rdOf ByteArray.empty l1 x6_1))) (ds := []) (bm 30 0) (by kernel_rfl) rfl rfl ⟨bl BK197 0,bl BK197 1,bl BK197 2,bl BK197 3,bl BK197 4,bl BK197 5,bl BK197 6,bl BK197 7,bl BK197 8,bl BK197 9,(cb HB.out hw206_0)⟩ (fun hHeld => ?_); refine with_tabW spec_l07Orphans.tab6 spec_l07Orphans.bits6 (fun HT_ HW_ => ?_)
         generalize w45.drew = w46 at HO_5 BK197 HB hx206_0 hHeld ⊢
         refine pV_ 0 28 (bm 30 1) HT_.out ?_
         refine pV_ 1 29 (bm 30 3) HT_.out ?_
         refine pV_ 3 31 (bm 30 11) HT_.out ?_
         refine pV_ 4 32 (bm 30 27) HT_.out ?_
         refine pV_ 5 33 (bm 30 59) HT_.out ?_
         refine take_ (i:=2) (N:=some 30) (v:=?_) (a':=?_) (bm 30 63) rfl rfl (take_ofW HT_.out HW_.out (by kernel_rfl)) (fun _ _ _ h => h) (Or.inl ⟨by rfl,?_⟩) hHeld ?_ ?_
         rotate_left
         ·rintro w' ⟨s0,s1,s2,s3,s4,s5,s6,s7,s8,s9,s10⟩
          go_simp
          with_reducible rfl
         rotate_left
         ·simp only [Act.put,setIfInBounds_toArray,set_cons_zero,set_cons_succ,i64_w,i32_w]
          rfl
         refine take_ (i:=6) (N:=some 34) (v:=?_) (a':=?_) (bm 30 127) rfl rfl (take_ofW HT_.out HW_.out (by kernel_rfl)) (fun _ _ _ h => h) (Or.inl ⟨by rfl,?_⟩) hHeld ?_ ?_
         rotate_left
         ·rintro w' ⟨s0,s1,s2,s3,s4,s5,s6,s7,s8,s9,s10⟩
          go_simp
          with_reducible rfl
         rotate_left
         ·simp only [Act.put,setIfInBounds_toArray,set_cons_zero,set_cons_succ,i64_w,i32_w]
          rfl
         refine one_ (i:=7) (N:=some 35) (bm 30 255) rfl rfl (one_of HT_.out (by kernel_rfl)) (by decide) (fun K hK => ?_)
         refine goes_ Tryz.func38 (by kernel_rfl) rfl #[.agg #[.int .i64 a0_0,.int .i64 a0_1,.slice A0_2 l0_2.length c0_2,.slice A0_3 l0_3.length c0_3,.int .i64 a0_4,.int .i64 a0_5,.int .i64 a0_6,.int .i64 a0_7,.int .i64 a0_8,.int .i64 a0_9],.string (rdOf ByteArray.empty l1 x6_1)] (by rfl) rfl rfl mA ?_
         with_reducible refine (spec_l06Named.calls k1 a0_0 a0_1 _ _ l0_2 _ _ l0_3 a0_4 a0_5 a0_6 a0_7 a0_8 a0_9 (rdOf ByteArray.empty l1 x6_1) false _ ?side1 ?side2 ?side3 ?side4 A10.out).mono ?_
         (case side1 => exact sC HR0_2.out)
         (case side2 => exact HC0_2.out)
         (case side3 => exact sC HR0_3.out)
         (case side4 => exact HC0_3.out)
         rintro e w47 ⟨rfl,hb⟩
         refine ⟨_,rfl,?_⟩
         have n0_ := Aside0.mk (Kd.R_below (rA HO_5.out) hb)
         have n1_ := Aside0.mk (bb BK197.out hb)
         have n2_ := Aside0.mk (below_step bA hb)
         clear HO_5 BK197 HB
         have HO_5 := n0_
         have BK197 := n1_
         have HB := n2_
         clear n0_ n1_ n2_
         (try clear hb)
         (try clear hb2)
         (try clear hk)
         (try clear hi)
         refine hK.out _ _ ⟨bl BK197 0,bl BK197 1,bl BK197 2,bl BK197 3,bl BK197 4,bl BK197 5,bl BK197 6,bl BK197 7,bl BK197 8,bl BK197 9,(cb HB.out hw206_0)⟩ (fun hHeld => ?_)
         clear hK K
         refine norm_ (a':=?_) ?_ ?_
         rotate_left
         ·show Act.put _ (some 35) _ = _
          simp only [Act.put,setIfInBounds_toArray,set_cons_zero,set_cons_succ,i64_w,i32_w]
          rfl
         refine pV_ 8 36 (bm 30 511) HT_.out ?_
         refine pV_ 9 37 (bm 30 1023) HT_.out ?_
         refine pV_ 10 38 (bm 30 2047) HT_.out ?_
         refine pV_ 11 39 (bm 30 4095) HT_.out ?_
         refine pV_ 12 40 (bm 30 8191) HT_.out ?_
         refine pV_ 13 41 (bm 30 16383) HT_.out ?_
         refine pU_ 14 42 (bm 30 32767) HT_.out ?_
         refine pU_ 15 43 (bm 30 65535) HT_.out ?_
         refine pU_ 16 44 (bm 30 131071) HT_.out ?_
         refine pU_ 17 45 (bm 30 262143) HT_.out ?_
         refine pV_ 18 46 (bm 30 524287) HT_.out ?_
         refine pV_ 19 47 (bm 30 1048575) HT_.out ?_
         refine pV_ 20 48 (bm 30 2097151) HT_.out ?_
         refine pV_ 21 49 (bm 30 4194303) HT_.out ?_
         refine pV_ 22 50 (bm 30 8388607) HT_.out ?_
         refine pU_ 23 51 (bm 30 16777215) HT_.out ?_
         refine pU_ 24 52 (bm 30 33554431) HT_.out ?_
         refine pU_ 25 53 (bm 30 67108863) HT_.out ?_
         refine pU_ 26 54 (bm 30 134217727) HT_.out ?_
         refine pV_ 27 55 (bm 30 268435455) HT_.out ?_
         refine pV_ 28 56 (bm 30 536870911) HT_.out ?_
         refine pV_ 29 57 (bm 30 1073741823) HT_.out ?_
         refine done_ (done_of HT_.out (by kernel_rfl)) ?_
         try go_wp2
         go_roundg k1
         case measure => have := HK1.out; omega
         case rel => exact ⟨(x5_1),(wrap64 (x6_1 + 1)),(by first | rfl | (simp; done) | (simp [*]; done)),H',⟨by have := HK1.out; omega⟩,⟨rA HO_5.out⟩,⟨kA BK197.out⟩,⟨bA⟩⟩
     ·replace c9 := Bool.eq_false_iff.mpr c9
      subst c9
      rw [if_neg (show ¬ (false = true) by decide)] at H
      have H' := Aside0.mk H
      clear H
      have p201 : 0 ≤ (x6_1 : Int) := od
      have q201 : x6_1 < (l1.length : Int) := od
      obtain ⟨ad201,e201,hx201_0⟩ := Kd.at_string HR1.out x6_1 p201 q201
      cases e201
      replace hx201_0 := cb HB.out hx201_0
      replace p201 := eq_true p201
      replace q201 := eq_true q201
      try go_wp2_with (first | ((with_reducible refine gate_callee (f:=37) rfl ?_); refine goesL_ (some 23) rfl rfl Tryz.func37 (by kernel_rfl) rfl #[.string (rdOf ByteArray.empty l1 x6_1)] rfl mA ?_; (with_reducible refine (spec_l03ToKey.calls k1 (rdOf ByteArray.empty l1 x6_1) t202 t203 t204 false _ A8.out).mono ?_); rintro e w48 ⟨rfl,hb⟩; refine ⟨_,rfl,?_⟩; have n0_ := Aside0.mk (Kd.R_below (rA HO_5.out) hb); have n1_ := Aside0.mk (bb BK197.out hb); have n2_ := Aside0.mk (below_step bA hb); clear HO_5 BK197 HB; have HO_5 := n0_; have BK197 := n1_; have HB := n2_; clear n0_ n1_ n2_; (try clear hb); (try clear hb2); (try clear hk); (try clear hi)))
      have n0_ := Aside0.mk (Kd.R_drew HO_5.out)
      have n1_ := Aside0.mk (blk_drew BK197.out)
      have n2_ := Aside0.mk (below_drew1 HB.out)
      clear HO_5 BK197 HB
      have HO_5 := n0_
      have BK197 := n1_
      have HB := n2_
      clear n0_ n1_ n2_
      refine start_ (n:=30) (S:=fun w' => True) (ds := []) (bm 30 0) (by kernel_rfl) rfl rfl trivial (fun hHeld => ?_); refine with_tabW spec_l07Orphans.tab6 spec_l07Orphans.bits6 (fun HT_ HW_ => ?_)
      generalize w48.drew = w49 at HO_5 BK197 HB hHeld ⊢
      refine pV_ 0 28 (bm 30 1) HT_.out ?_
      refine pV_ 1 29 (bm 30 3) HT_.out ?_
      refine pU_ 2 30 (bm 30 7) HT_.out ?_
      refine pU_ 3 31 (bm 30 15) HT_.out ?_
      refine pU_ 4 32 (bm 30 31) HT_.out ?_
      refine pU_ 5 33 (bm 30 63) HT_.out ?_
      refine pU_ 6 34 (bm 30 127) HT_.out ?_
      refine pU_ 7 35 (bm 30 255) HT_.out ?_
      refine pU_ 8 36 (bm 30 511) HT_.out ?_
      refine pV_ 9 37 (bm 30 1023) HT_.out ?_
      refine pV_ 10 38 (bm 30 2047) HT_.out ?_
      refine pU_ 11 39 (bm 30 4095) HT_.out ?_
      refine pU_ 12 40 (bm 30 8191) HT_.out ?_
      refine pU_ 13 41 (bm 30 16383) HT_.out ?_
      refine pU_ 14 42 (bm 30 32767) HT_.out ?_
      refine pU_ 15 43 (bm 30 65535) HT_.out ?_
      refine pU_ 16 44 (bm 30 131071) HT_.out ?_
      refine pU_ 17 45 (bm 30 262143) HT_.out ?_
      refine pU_ 18 46 (bm 30 524287) HT_.out ?_
      refine pU_ 19 47 (bm 30 1048575) HT_.out ?_
      refine pU_ 20 48 (bm 30 2097151) HT_.out ?_
      refine pU_ 21 49 (bm 30 4194303) HT_.out ?_
      refine pU_ 22 50 (bm 30 8388607) HT_.out ?_
      refine pU_ 23 51 (bm 30 16777215) HT_.out ?_
      refine pU_ 24 52 (bm 30 33554431) HT_.out ?_
      refine pU_ 25 53 (bm 30 67108863) HT_.out ?_
      refine pU_ 26 54 (bm 30 134217727) HT_.out ?_
      refine pU_ 27 55 (bm 30 268435455) HT_.out ?_
      refine pU_ 28 56 (bm 30 536870911) HT_.out ?_
      refine pV_ 29 57 (bm 30 1073741823) HT_.out ?_
      refine done_ (done_of HT_.out (by kernel_rfl)) ?_
      try go_wp2
      go_roundg k1
      case measure => have := HK1.out; omega
      case rel => exact ⟨(x5_1),(wrap64 (x6_1 + 1)),(by first | rfl | (simp; done) | (simp [*]; done)),H',⟨by have := HK1.out; omega⟩,⟨rA HO_5.out⟩,⟨kA BK197.out⟩,⟨bA⟩⟩
    ·rw [if_neg c7] at H
     exact absurd H (by simp)
   ·rw [if_neg c6] at H
    have c6b0 : decide (x6_1 < (l1.length : Int)) = false := decide_eq_false c6
    clear c6
    obtain rfl := Option.some.inj H
    go_wp2
    go_ret
    exact ⟨_,by first | rfl | (simp only [i64_w,i32_w] <;> rfl) | (simp [errW_none,errW_some] <;> rfl) | (simp [*,errW_none,errW_some] <;> rfl),rA HO_5.out,bA⟩

end Go.Proofs.YtfondhlknkhmmaaGreatDoor.XFnExactOrphansOf
