-- Printed by this session's own program wip/tools/xprint.py, which widens the kit's print. Not trusted: Lean checks it.
import Derived.Test.YtgkfemnfbkgeiaaXFnStorex0
import Derived.Test.YtgkfemnfbkgeiaaXFnStorex1
import Derived.Test.YtgkfemnfbkgeiaaXFnStorex6
import Derived.Test.YtgkfemnfbkgeiaaXFnStorex7
import Derived.Test.YtgkfemnfbkgeiaaXFnStorex10
import Derived.Test.YtgkfemnfbkgeiaaXFnStorex12
import Derived.Test.YtgkfemnfbkgeiaaXFnStorex13
import Derived.Test.YtgkfemnfbkgeiaaXFnStorex15
import Derived.Test.YtgkfemnfbkgeiaaXFnStorex16
namespace Go.Proofs.Ytgkfemnfbkgeiaa.XFnStore
open List (setIfInBounds_toArray set_cons_zero set_cons_succ)
open Go.RowKit Go.Proofs.YtgkfemnfbkgeiaaW.PrintWords Go.Proofs.YtgkfemnfbkgeiaaW.PrintLast Go.Proofs.YtgkfemnfbkgeiaaW.PrintMore
attribute [local go_sem] max2_int min2_int max_two min_two max_three min_three max_four min_four   -- for this text's walks alone
set_option linter.unusedVariables false
set_option linter.unusedSimpArgs false

attribute [local go_sem high] eqA32
/-! ### laws_FnStore: function 4 -/
mutual
def laws_FnStore.j0 : Nat → List Int → List Int → Bool → Option (Bool)
 | 0,_,_,_ => none
 | k + 1,x0,x1,x33 => if x33 = true then (some true) else ((spec_PlainStore.f k x0).bind fun bt506 => ((some (([(⟨#[49]⟩ : ByteArray),(⟨#[50]⟩ : ByteArray),(⟨#[51]⟩ : ByteArray)] : List ByteArray) : List ByteArray)).bind fun y511 => ((laws_at.f x1 0 3).bind fun t514 => (if 0 ≤ t514 then (if t514 < (y511.length : Int) then (if 2 + (rdOf ByteArray.empty y511 t514).size ≤ 9223372036854775807 then ((laws_at.f x1 1 9).bind fun t516 => ((spec_TextOf.f k x1 t516).bind fun t517 => ((impl_PutAbsent.f k bt506.1 bt506.2 ((⟨#[109,47]⟩ : ByteArray) ++ (rdOf ByteArray.empty y511 t514)) t517).bind fun bt518 => ((spec_PutAbsent.f k bt506.1 bt506.2 ((⟨#[109,47]⟩ : ByteArray) ++ (rdOf ByteArray.empty y511 t514)) t517).bind fun bt525 => ((impl_GetObject.f k bt518.1 bt518.2.1 ((⟨#[109,47]⟩ : ByteArray) ++ (rdOf ByteArray.empty y511 t514))).bind fun bt532 => ((impl_DeleteVersion.f k bt518.1 bt518.2.1 ((⟨#[109,47]⟩ : ByteArray) ++ (rdOf ByteArray.empty y511 t514)) bt518.2.2.1).bind fun bt535 => ((impl_GetObject.f k bt535.1 bt535.2.1 ((⟨#[109,47]⟩ : ByteArray) ++ (rdOf ByteArray.empty y511 t514))).bind fun bt541 => (if bt518.2.2.2 = 0 then ((laws_sameStore.f k bt518.1 bt518.2.1 bt525.1 bt525.2.1).bind fun t544 => (if t544 = true then (if bt532.2.2 = 0 then (if bt532.1.toList = t517.toList then (if bt532.2.1 = bt518.2.2.1 then (if bt535.2.2 = 0 then (if bt541.2.2 = 5 then (if (bt535.1.length : Int) = (bt506.1.length : Int) then ((impl_StoreOK.f k bt518.1 bt518.2.1).bind fun t545 => (if t545 = true then ((impl_KeyOK.f k ((⟨#[109,47]⟩ : ByteArray) ++ (rdOf ByteArray.empty y511 t514))).bind fun t546 => (laws_FnStore.j1 k (!t546) bt506.1 bt506.2 bt518.1 bt518.2.1 bt525.1 bt525.2.1 bt535.1 bt535.2.1)) else (laws_FnStore.j1 k true bt506.1 bt506.2 bt518.1 bt518.2.1 bt525.1 bt525.2.1 bt535.1 bt535.2.1))) else (laws_FnStore.j1 k true bt506.1 bt506.2 bt518.1 bt518.2.1 bt525.1 bt525.2.1 bt535.1 bt535.2.1)) else (laws_FnStore.j1 k true bt506.1 bt506.2 bt518.1 bt518.2.1 bt525.1 bt525.2.1 bt535.1 bt535.2.1)) else (laws_FnStore.j1 k true bt506.1 bt506.2 bt518.1 bt518.2.1 bt525.1 bt525.2.1 bt535.1 bt535.2.1)) else (laws_FnStore.j1 k true bt506.1 bt506.2 bt518.1 bt518.2.1 bt525.1 bt525.2.1 bt535.1 bt535.2.1)) else (laws_FnStore.j1 k true bt506.1 bt506.2 bt518.1 bt518.2.1 bt525.1 bt525.2.1 bt535.1 bt535.2.1)) else (laws_FnStore.j1 k true bt506.1 bt506.2 bt518.1 bt518.2.1 bt525.1 bt525.2.1 bt535.1 bt535.2.1)) else (laws_FnStore.j1 k true bt506.1 bt506.2 bt518.1 bt518.2.1 bt525.1 bt525.2.1 bt535.1 bt535.2.1))) else (laws_FnStore.j1 k true bt506.1 bt506.2 bt518.1 bt518.2.1 bt525.1 bt525.2.1 bt535.1 bt535.2.1))))))))) else (none)) else (none)) else (none)))))
def laws_FnStore.j1 : Nat → Bool → List (S32) → Int → List (S32) → Int → List (S32) → Int → List (S32) → Int → Option (Bool)
 | 0,_,_,_,_,_,_,_,_,_ => none
 | k + 1,x131,x511000,x511001,x525000,x525001,x532000,x532001,x541000,x541001 => if x131 = true then (none) else (laws_FnStore.l0 k 0 x511000 x511001 x525000 x525001 x532000 x532001 x541000 x541001)
def laws_FnStore.l0 : Nat → Int → List (S32) → Int → List (S32) → Int → List (S32) → Int → List (S32) → Int → Option (Bool)
 | 0,_,_,_,_,_,_,_,_,_ => none
 | k + 1,x22,x511000,x511001,x525000,x525001,x532000,x532001,x541000,x541001 => if x22 < (x511000.length : Int) then (if 0 ≤ x22 then ((impl_GetObject.f k x525000 x525001 ((rd_T32 x511000 x22).f0)).bind fun bt548 => (if bt548.2.2 = 0 then (if bt548.1.toList = ((rd_T32 x511000 x22).f2).toList then (if bt548.2.1 = ((rd_T32 x511000 x22).f1) then (if x22 < (x541000.length : Int) then (if (!((((rd_T32 x541000 x22).f0).toList) == (((rd_T32 x511000 x22).f0).toList)) || (!(((rd_T32 x541000 x22).f1) == ((rd_T32 x511000 x22).f1)) || (!((((rd_T32 x541000 x22).f2).toList) == (((rd_T32 x511000 x22).f2).toList))))) = true then (none) else (laws_FnStore.l0 k (wrap64 (x22 + 1)) x511000 x511001 x525000 x525001 x532000 x532001 x541000 x541001)) else (none)) else (none)) else (none)) else (none))) else (none)) else ((impl_SameStore.f k x525000 x525001 x532000 x532001).bind fun t555 => (if t555 = true then (some (x541001 == x525001)) else (none)))
end
def laws_FnStore.f (k : Nat) (l0 : List Int) (l1 : List Int) : Option (Bool) := if (l0.length : Int) > 1048576 then (laws_FnStore.j0 k l0 l1 true) else (laws_FnStore.j0 k l0 l1 (decide ((l1.length : Int) > 1048576)))
theorem laws_FnStore.mono_l : ∀ k,(∀ y0 y1 y2,LeO (laws_FnStore.j0 k y0 y1 y2) (laws_FnStore.j0 (k + 1) y0 y1 y2)) ∧ (∀ y0 y1 y2 y3 y4 y5 y6 y7 y8,LeO (laws_FnStore.j1 k y0 y1 y2 y3 y4 y5 y6 y7 y8) (laws_FnStore.j1 (k + 1) y0 y1 y2 y3 y4 y5 y6 y7 y8)) ∧ (∀ y0 y1 y2 y3 y4 y5 y6 y7 y8,LeO (laws_FnStore.l0 k y0 y1 y2 y3 y4 y5 y6 y7 y8) (laws_FnStore.l0 (k + 1) y0 y1 y2 y3 y4 y5 y6 y7 y8))
 | 0 => ⟨fun _ _ _ r h => by simp [laws_FnStore.j0] at h,fun _ _ _ _ _ _ _ _ _ r h => by simp [laws_FnStore.j1] at h,fun _ _ _ _ _ _ _ _ _ r h => by simp [laws_FnStore.l0] at h⟩
 | k + 1 => by
  obtain ⟨ih0,ih1,ih2⟩ := laws_FnStore.mono_l k
  refine ⟨?_,?_,?_⟩
  all_goals
   intros
   first | unfold laws_FnStore.j0 | unfold laws_FnStore.j1 | unfold laws_FnStore.l0
   repeat' first
   | (with_reducible first | exact ih0 .. | exact ih1 .. | exact ih2 .. | exact impl_DeleteVersion.mono .. | exact impl_GetObject.mono .. | exact impl_KeyOK.mono .. | exact impl_PutAbsent.mono .. | exact impl_SameStore.mono .. | exact impl_StoreOK.mono .. | exact laws_sameStore.mono .. | exact spec_PlainStore.mono .. | exact spec_PutAbsent.mono .. | exact spec_TextOf.mono .. | exact LeO.refl _ | exact LeO.none _ | refine LeO.ite ?_ ?_ | refine LeO.bind ?_ (fun _ => ?_))
   | exact LeO.none _ | refine LeO.ite ?_ ?_ | refine LeO.bind ?_ (fun _ => ?_)
theorem laws_FnStore.mono : ∀ a0 a1 k,LeO (laws_FnStore.f k a0 a1) (laws_FnStore.f (k + 1) a0 a1) := by
 intro a0 a1 k
 obtain ⟨ih0,ih1,ih2⟩ := laws_FnStore.mono_l k
 unfold laws_FnStore.f
 repeat' first
 | (with_reducible first | exact ih0 .. | exact ih1 .. | exact ih2 .. | exact impl_DeleteVersion.mono .. | exact impl_GetObject.mono .. | exact impl_KeyOK.mono .. | exact impl_PutAbsent.mono .. | exact impl_SameStore.mono .. | exact impl_StoreOK.mono .. | exact laws_sameStore.mono .. | exact spec_PlainStore.mono .. | exact spec_PutAbsent.mono .. | exact spec_TextOf.mono .. | exact LeO.refl _ | exact LeO.none _ | refine LeO.ite ?_ ?_ | refine LeO.bind ?_ (fun _ => ?_))
 | exact LeO.none _ | refine LeO.ite ?_ ?_ | refine LeO.bind ?_ (fun _ => ?_)
def laws_FnStore.T16 : Bool × List (List Nat × List Nat) := (true,[([],[]),([],[]),([1],[1]),([],[]),([2,3],[2,3]),([4],[4]),([5],[5]),([0,6],[0,6]),([7],[7]),([8],[8]),([8],[8]),([8],[8]),([9,7,0,1,2,3,4,5,6,7,8,9],[9]),([10,12,0,1,2,3,4,5,6,7,8,9,10,12],[10]),([11,13,0,1,2,3,4,5,6,7,8,9,10,11,12,13],[11])])
def laws_FnStore.B16 : List Nat := [0,0,2,0,14,30,62,127,255,511,511,511,1023,6143,16383]
theorem laws_FnStore.tab16 : rtab .any (opsOf Try.f4 16) = laws_FnStore.T16 := by kernel_rfl
theorem laws_FnStore.bits16 : waitsOk laws_FnStore.T16.2 laws_FnStore.B16 = true := by kernel_rfl
def laws_FnStore.T17 : Bool × List (List Nat × List Nat) := (true,[([],[]),([0],[0]),([1],[1]),([2],[2]),([2],[2]),([4,2],[2,4]),([2],[2]),([5,6,2],[2,5,6]),([7,2],[2,7]),([8,2],[2,8]),([3,9,2],[2,3,9]),([2,10],[2,10]),([11,2],[11]),([12],[12]),([12],[12]),([14,12],[12,14]),([12],[12]),([15,16,12],[12,15,16]),([17,12],[12,17]),([18,12],[12,18]),([13,19,12],[12,13,19]),([12,20],[12,20]),([21,12],[21]),([22],[22]),([23,22],[22,23]),([22],[22]),([24,25,22],[22,24,25]),([26,22],[22,26]),([22],[22]),([28,22],[22,28]),([22],[22]),([29,30,22],[22,29,30]),([31,22],[22,31]),([27,32,22],[22,27,32]),([22,33],[22,33])])
def laws_FnStore.B17 : List Nat := [0,1,3,7,7,23,7,119,247,503,1023,2047,4095,8191,8191,24575,8191,122879,253951,516095,1048575,2097151,4194303,8388607,16777215,8388607,67108863,134217727,8388607,276824063,8388607,1887436799,4034920447,8589934591,17179869183]
theorem laws_FnStore.tab17 : rtab .any (opsOf Try.f4 17) = laws_FnStore.T17 := by kernel_rfl
theorem laws_FnStore.bits17 : waitsOk laws_FnStore.T17.2 laws_FnStore.B17 = true := by kernel_rfl
/-- What follows a cut. -/
structure CutW (p : Prop) : Prop where
  out : p
set_option maxHeartbeats 8000000 in
set_option maxRecDepth 100000 in
noncomputable def FnStore_cut1 : PSigma (fun M_ : Prop => CutW M_ → ∀ (k : Nat) (A0 : Option Addr) (c0 : Nat) (l0 : List Int) (A1 : Option Addr) (c1 : Nat) (l1 : List Int) (r : Bool) (w : World) (hr0 : Kd.C (Kd.int .u8) w A0 l0.length l0) (hc0 : l0.length ≤ c0) (hr1 : Kd.C (Kd.int .u8) w A1 l1.length l1) (hc1 : l1.length ≤ c1) (h : laws_FnStore.f k l0 l1 = some r), Calls Try.prog 4 #[.slice A0 l0.length c0,.slice A1 l1.length c1] w fun e w' => e = .returned (.bool r) ∧ Below w.heap.size w w') := by
 apply PSigma.mk
 case snd =>
  intro hm_ k A0 c0 l0 A1 c1 l1 r w hr0 hc0 hr1 hc1 h
  have hu25 := Try.underlying25
  have hu32 := Try.underlying32
  have HR0 := Aside0.mk hr0
  have HC0 := Aside0.mk hc0
  clear hr0 hc0
  have HR1 := Aside0.mk hr1
  have HC1 := Aside0.mk hc1
  clear hr1 hc1
  have HB := Aside0.mk (Below.refl w.heap.size w)
  have H : (if (l0.length : Int) > 1048576 then (laws_FnStore.j0 k l0 l1 true) else (laws_FnStore.j0 k l0 l1 (decide ((l1.length : Int) > 1048576)))) = some r := h
  clear h
  have HC3 := Aside0.mk H
  clear H
  go_enter Try.func4,Try.ntmps4
  go_upto_region 1 with (fail)
  go_cut [33] (fun v33 wc => ∃ (kq : Nat) (x33_2 : Bool),v33 = .bool x33_2 ∧ Aside0 (laws_FnStore.j0 kq l0 l1 x33_2 = some r) ∧ Aside0 (kq ≤ k) ∧ Aside0 (Below w.heap.size w wc))
  case first =>
   have H := HC3.out
   clear HC3
   by_cases c4 : (l0.length : Int) > 1048576
   ·rw [if_pos c4] at H
    have c4b0 : decide (1048576 < (l0.length : Int)) = true := decide_eq_true c4
    have c4b1 : decide (1048576 < l0.length) = true := decide_eq_true (by omega)
    clear c4
    (first | rw [c4b0] | (simp only [i64_w,i32_w]; rw [c4b0]) | skip)
    have H' := Aside0.mk H
    clear H
    go_wp2
    go_meet
    case rel => exact ⟨_,(true),(by first | rfl | (simp; done) | (simp [*]; done)),H',⟨by first | omega | exact Nat.le_refl _⟩,⟨bA⟩⟩
   ·rw [if_neg c4] at H
    have c4b0 : decide (1048576 < (l0.length : Int)) = false := decide_eq_false c4
    have c4b1 : decide (1048576 < l0.length) = false := decide_eq_false (by omega)
    clear c4
    (first | rw [c4b0] | (simp only [i64_w,i32_w]; rw [c4b0]) | skip)
    have H' := Aside0.mk H
    clear H
    go_wp2
    go_meet
    case rel => exact ⟨_,(decide ((l1.length : Int) > 1048576)),(by first | rfl | (simp; done) | (simp [*]; done)),H',⟨by first | omega | exact Nat.le_refl _⟩,⟨bA⟩⟩
  case rest =>
   clear HC3
   try clear c1
   try clear p2
   try clear c4
   try clear c4b0
   try clear c4b1
   rename_i zp1_1 zp1_2 zp1_3 zp1_4 zp1_5; revert k A0 c0 l0 A1 c1 l1 r w hu25 hu32 HR0 HC0 HR1 HC1 HB zp1_1 zp1_2 zp1_3 zp1_4 zp1_5 wc u26 u27 u28 u29 u30 u31 u32 u33 u34 u35 u36 u37 u38 u39 u40 u41 u42 u43 u44 u45 u46 u47 u48 u49 u50 u51 u52 u53 u54 u55 u56 u57 u58 u59 u60 u61 u62 u63 u64 u65 u66 u67 u68 u69 u70 u71 u72 u73 u74 u75 u76 u77 u78 u79 u80 u81 u82 u83 u84 u85 u86 u87 u88 u89 u90 u91 u92 u93 u94 u95 u96 u97 u98 u99 u100 u101 u102 u103 u104 u105 u106 u107 u108 u109 u110 u111 u112 u113 u114 u115 u116 u117 u118 u119 u120 u121 u122 u123 u124 u125 u126 u127 u128 u129 u130 u131 u132 u133 u134 u135 u136 u137 u138 u139 u140 u141 u142 u143 u144 u145 u146 u147 u148 u149 u150 u151 u152 u153 u154 u155 u156 u157 u158 u159 u160 u161 u162 u163 u164 u165 u166 u167 u168 u169 u170 u171 u172 u173 u174 u175 u176 u177 u178 u179 u180 u181 u182 u183 u184 u185 u186 u187 u188 u189 u190 u191 u192 u193 u194 u195 hcut; exact hm_.out
set_option maxHeartbeats 8000000 in
set_option maxRecDepth 100000 in
noncomputable def FnStore_cut2 : PSigma (fun M_ : Prop => CutW M_ → FnStore_cut1.1) := by
  apply PSigma.mk
  case snd =>
   intro hm_
   intro k A0 c0 l0 A1 c1 l1 r w hu25 hu32 HR0 HC0 HR1 HC1 HB zq1_1 zq1_2 zq1_3 zq1_4 zq1_5 wc u26 u27 u28 u29 u30 u31 u32 u33 u34 u35 u36 u37 u38 u39 u40 u41 u42 u43 u44 u45 u46 u47 u48 u49 u50 u51 u52 u53 u54 u55 u56 u57 u58 u59 u60 u61 u62 u63 u64 u65 u66 u67 u68 u69 u70 u71 u72 u73 u74 u75 u76 u77 u78 u79 u80 u81 u82 u83 u84 u85 u86 u87 u88 u89 u90 u91 u92 u93 u94 u95 u96 u97 u98 u99 u100 u101 u102 u103 u104 u105 u106 u107 u108 u109 u110 u111 u112 u113 u114 u115 u116 u117 u118 u119 u120 u121 u122 u123 u124 u125 u126 u127 u128 u129 u130 u131 u132 u133 u134 u135 u136 u137 u138 u139 u140 u141 u142 u143 u144 u145 u146 u147 u148 u149 u150 u151 u152 u153 u154 u155 u156 u157 u158 u159 u160 u161 u162 u163 u164 u165 u166 u167 u168 u169 u170 u171 u172 u173 u174 u175 u176 u177 u178 u179 u180 u181 u182 u183 u184 u185 u186 u187 u188 u189 u190 u191 u192 u193 u194 u195 hcut
   obtain ⟨kq,x33_2,rfl,HA,HJ2,HB⟩ := hcut
   cases kq with
   | zero => exact absurd HA.out (by simp [laws_FnStore.j0])
   | succ kj2 =>
    have H := HA.out
    clear HA
    simp only [laws_FnStore.j0] at H
    by_cases c5 : x33_2 = true
    ·subst c5
     rw [if_pos rfl] at H
     obtain rfl := Option.some.inj H
     go_wp2
     go_ret
     exact ⟨by first | rfl | (simp only [i64_w,i32_w] <;> rfl) | (simp [errW_none,errW_some] <;> rfl) | (simp [*,errW_none,errW_some] <;> rfl),bA⟩
    ·replace c5 := Bool.eq_false_iff.mpr c5
     subst c5
     rw [if_neg (show ¬ (false = true) by decide)] at H
     replace H := Option.bind_eq_some_iff.mp H
     obtain ⟨⟨t506,t509⟩,A60,H⟩ := H
     try dsimp only at H
     have A6 := Aside0.mk A60
     clear A60
     obtain ⟨y511,hy511⟩ : ∃ y_ : List ByteArray,y_ = (([(⟨#[49]⟩ : ByteArray),(⟨#[50]⟩ : ByteArray),(⟨#[51]⟩ : ByteArray)] : List ByteArray)) := ⟨_,rfl⟩
     replace H : ((laws_at.f l1 0 3).bind fun t514 => (if 0 ≤ t514 then (if t514 < (y511.length : Int) then (if 2 + (rdOf ByteArray.empty y511 t514).size ≤ 9223372036854775807 then ((laws_at.f l1 1 9).bind fun t516 => ((spec_TextOf.f kj2 l1 t516).bind fun t517 => ((impl_PutAbsent.f kj2 t506 t509 ((⟨#[109,47]⟩ : ByteArray) ++ (rdOf ByteArray.empty y511 t514)) t517).bind fun bt518 => ((spec_PutAbsent.f kj2 t506 t509 ((⟨#[109,47]⟩ : ByteArray) ++ (rdOf ByteArray.empty y511 t514)) t517).bind fun bt525 => ((impl_GetObject.f kj2 bt518.1 bt518.2.1 ((⟨#[109,47]⟩ : ByteArray) ++ (rdOf ByteArray.empty y511 t514))).bind fun bt532 => ((impl_DeleteVersion.f kj2 bt518.1 bt518.2.1 ((⟨#[109,47]⟩ : ByteArray) ++ (rdOf ByteArray.empty y511 t514)) bt518.2.2.1).bind fun bt535 => ((impl_GetObject.f kj2 bt535.1 bt535.2.1 ((⟨#[109,47]⟩ : ByteArray) ++ (rdOf ByteArray.empty y511 t514))).bind fun bt541 => (if bt518.2.2.2 = 0 then ((laws_sameStore.f kj2 bt518.1 bt518.2.1 bt525.1 bt525.2.1).bind fun t544 => (if t544 = true then (if bt532.2.2 = 0 then (if bt532.1.toList = t517.toList then (if bt532.2.1 = bt518.2.2.1 then (if bt535.2.2 = 0 then (if bt541.2.2 = 5 then (if (bt535.1.length : Int) = (t506.length : Int) then ((impl_StoreOK.f kj2 bt518.1 bt518.2.1).bind fun t545 => (if t545 = true then ((impl_KeyOK.f kj2 ((⟨#[109,47]⟩ : ByteArray) ++ (rdOf ByteArray.empty y511 t514))).bind fun t546 => (laws_FnStore.j1 kj2 (!t546) t506 t509 bt518.1 bt518.2.1 bt525.1 bt525.2.1 bt535.1 bt535.2.1)) else (laws_FnStore.j1 kj2 true t506 t509 bt518.1 bt518.2.1 bt525.1 bt525.2.1 bt535.1 bt535.2.1))) else (laws_FnStore.j1 kj2 true t506 t509 bt518.1 bt518.2.1 bt525.1 bt525.2.1 bt535.1 bt535.2.1)) else (laws_FnStore.j1 kj2 true t506 t509 bt518.1 bt518.2.1 bt525.1 bt525.2.1 bt535.1 bt535.2.1)) else (laws_FnStore.j1 kj2 true t506 t509 bt518.1 bt518.2.1 bt525.1 bt525.2.1 bt535.1 bt535.2.1)) else (laws_FnStore.j1 kj2 true t506 t509 bt518.1 bt518.2.1 bt525.1 bt525.2.1 bt535.1 bt535.2.1)) else (laws_FnStore.j1 kj2 true t506 t509 bt518.1 bt518.2.1 bt525.1 bt525.2.1 bt535.1 bt535.2.1)) else (laws_FnStore.j1 kj2 true t506 t509 bt518.1 bt518.2.1 bt525.1 bt525.2.1 bt535.1 bt535.2.1)) else (laws_FnStore.j1 kj2 true t506 t509 bt518.1 bt518.2.1 bt525.1 bt525.2.1 bt535.1 bt535.2.1))) else (laws_FnStore.j1 kj2 true t506 t509 bt518.1 bt518.2.1 bt525.1 bt525.2.1 bt535.1 bt535.2.1))))))))) else (none)) else (none)) else (none))) = some r := by first | (rw [hy511]; with_reducible exact H) | (have H2_ := (Option.bind_some _ _).symm.trans H; rw [hy511]; with_reducible exact H2_) | (have H2_ := (Option.bind_some _ _).symm.trans H; with_reducible exact H2_) | with_reducible exact H | (rw [hy511]; exact H) | exact H
     have Ny511 := Aside0.mk hy511
     clear hy511
     replace H := Option.bind_eq_some_iff.mp H
     obtain ⟨t514,A70,H⟩ := H
     try dsimp only at H
     have A7 := Aside0.mk A70
     clear A70
     by_cases c8 : 0 ≤ t514
     ·rw [if_pos c8] at H
      have c8b0 : decide (0 ≤ t514) = true := decide_eq_true c8
      clear c8
      by_cases c9 : t514 < (y511.length : Int)
      ·rw [if_pos c9] at H
       have c9b0 : decide (t514 < (y511.length : Int)) = true := decide_eq_true c9
       clear c9
       by_cases c10 : 2 + (rdOf ByteArray.empty y511 t514).size ≤ 9223372036854775807
       ·rw [if_pos c10] at H
        have c10b0 := eq_true c10
        have c10b1 : decide (2 + (rdOf ByteArray.empty y511 t514).size ≤ 9223372036854775807) = true := decide_eq_true c10
        try have c10b2 : (9223372036854775807 < 2 + (rdOf ByteArray.empty y511 t514).size) = False := eq_false (Nat.not_lt.2 c10)
        replace H := Option.bind_eq_some_iff.mp H
        obtain ⟨t516,A110,H⟩ := H
        try dsimp only at H
        have A11 := Aside0.mk A110
        clear A110
        replace H := Option.bind_eq_some_iff.mp H
        obtain ⟨t517,A120,H⟩ := H
        try dsimp only at H
        have A12 := Aside0.mk A120
        clear A120
        replace H := Option.bind_eq_some_iff.mp H
        obtain ⟨⟨t518,t521,t522,t523⟩,A130,H⟩ := H
        try dsimp only at H
        have A13 := Aside0.mk A130
        clear A130
        replace H := Option.bind_eq_some_iff.mp H
        obtain ⟨⟨t525,t528,t529,t530⟩,A140,H⟩ := H
        try dsimp only at H
        have A14 := Aside0.mk A140
        clear A140
        replace H := Option.bind_eq_some_iff.mp H
        obtain ⟨⟨t532,t533,t534⟩,A150,H⟩ := H
        try dsimp only at H
        have A15 := Aside0.mk A150
        clear A150
        replace H := Option.bind_eq_some_iff.mp H
        obtain ⟨⟨t535,t538,t539⟩,A160,H⟩ := H
        try dsimp only at H
        have A16 := Aside0.mk A160
        clear A160
        replace H := Option.bind_eq_some_iff.mp H
        obtain ⟨⟨t541,t542,t543⟩,A170,H⟩ := H
        try dsimp only at H
        have A17 := Aside0.mk A170
        clear A170
        have HC18 := Aside0.mk H
        clear H
        rename_i zp2_1; revert k A0 c0 l0 A1 c1 l1 r w hu25 hu32 HR0 HC0 HR1 HC1 zp2_1 zq1_1 zq1_2 zq1_3 zq1_4 zq1_5 wc u26 u27 u28 u29 u30 u31 u32 u34 u35 u36 u37 u38 u39 u40 u41 u42 u43 u44 u45 u46 u47 u48 u49 u50 u51 u52 u53 u54 u55 u56 u57 u58 u59 u60 u61 u62 u63 u64 u65 u66 u67 u68 u69 u70 u71 u72 u73 u74 u75 u76 u77 u78 u79 u80 u81 u82 u83 u84 u85 u86 u87 u88 u89 u90 u91 u92 u93 u94 u95 u96 u97 u98 u99 u100 u101 u102 u103 u104 u105 u106 u107 u108 u109 u110 u111 u112 u113 u114 u115 u116 u117 u118 u119 u120 u121 u122 u123 u124 u125 u126 u127 u128 u129 u130 u131 u132 u133 u134 u135 u136 u137 u138 u139 u140 u141 u142 u143 u144 u145 u146 u147 u148 u149 u150 u151 u152 u153 u154 u155 u156 u157 u158 u159 u160 u161 u162 u163 u164 u165 u166 u167 u168 u169 u170 u171 u172 u173 u174 u175 u176 u177 u178 u179 u180 u181 u182 u183 u184 u185 u186 u187 u188 u189 u190 u191 u192 u193 u194 u195 HB kj2 HJ2 t506 t509 A6 y511 Ny511 t514 A7 c8b0 c9b0 c10 c10b0 c10b1 c10b2 t516 A11 t517 A12 t518 t521 t522 t523 A13 t525 t528 t529 t530 A14 t532 t533 t534 A15 t535 t538 t539 A16 t541 t542 t543 A17 HC18; exact hm_.out
       ·rw [if_neg c10] at H
        exact absurd H (by simp)
      ·rw [if_neg c9] at H
       exact absurd H (by simp)
     ·rw [if_neg c8] at H
      exact absurd H (by simp)
set_option maxHeartbeats 8000000 in
set_option maxRecDepth 100000 in
noncomputable def FnStore_cut3 : PSigma (fun M_ : Prop => CutW M_ → FnStore_cut2.1) := by
       apply PSigma.mk
       case snd =>
        intro hm_
        intro k A0 c0 l0 A1 c1 l1 r w hu25 hu32 HR0 HC0 HR1 HC1 zq2_1 zq2_2 zq2_3 zq2_4 zq2_5 zq2_6 wc u26 u27 u28 u29 u30 u31 u32 u34 u35 u36 u37 u38 u39 u40 u41 u42 u43 u44 u45 u46 u47 u48 u49 u50 u51 u52 u53 u54 u55 u56 u57 u58 u59 u60 u61 u62 u63 u64 u65 u66 u67 u68 u69 u70 u71 u72 u73 u74 u75 u76 u77 u78 u79 u80 u81 u82 u83 u84 u85 u86 u87 u88 u89 u90 u91 u92 u93 u94 u95 u96 u97 u98 u99 u100 u101 u102 u103 u104 u105 u106 u107 u108 u109 u110 u111 u112 u113 u114 u115 u116 u117 u118 u119 u120 u121 u122 u123 u124 u125 u126 u127 u128 u129 u130 u131 u132 u133 u134 u135 u136 u137 u138 u139 u140 u141 u142 u143 u144 u145 u146 u147 u148 u149 u150 u151 u152 u153 u154 u155 u156 u157 u158 u159 u160 u161 u162 u163 u164 u165 u166 u167 u168 u169 u170 u171 u172 u173 u174 u175 u176 u177 u178 u179 u180 u181 u182 u183 u184 u185 u186 u187 u188 u189 u190 u191 u192 u193 u194 u195 HB kj2 HJ2 t506 t509 A6 y511 Ny511 t514 A7 c8b0 c9b0 c10 c10b0 c10b1 c10b2 t516 A11 t517 A12 t518 t521 t522 t523 A13 t525 t528 t529 t530 A14 t532 t533 t534 A15 t535 t538 t539 A16 t541 t542 t543 A17 HC18
        go_upto_region 11 with (first | ((with_reducible refine gate_callee (f:=6) rfl ?_); refine goesL_ (some 35) rfl rfl Try.func6 (by kernel_rfl) rfl #[.slice A0 l0.length c0] rfl mA ?_; (with_reducible refine (spec_PlainStore.calls kj2 _ _ l0 t506 t509 _ ?side1 ?side2 A6.out).mono ?_); (case side1 => exact sC HR0.out); (case side2 => exact HC0.out); rintro e w19 ⟨v507,rfl,ho0,hb⟩; refine ⟨_,rfl,?_⟩; have HO508 := Aside0.mk (Kd.R_lower ho0 (below_size bA)); replace HB := bsA hb; clear hb; (try clear ho0)) | ((with_reducible refine gate_dst (N:=5) rfl ?_); (try (refine gate_guard (by rfl) ?_; dsimp only)); refine bxe (N:=5) (cs := #[.slice none 0 0,.int .i64 0]) (t:=25) ?_; intro gb510 hg w20 hbox hb; replace HO508 := Aside0.mk (Kd.R_below (rA HO508.out) hb); have BK510 := Aside0.mk (hbox); have GW510 := Aside0.mk ((gw hg : w.heap.size ≤ gb510)); have GE510 := GW510; replace HB := bsA hb; clear hb hbox hg; obtain ⟨Ao21,co21,eo21⟩ := Kd.R_slice HO508.out; subst eo21; obtain ⟨hcz22_0,hcz22_1⟩ := cl2 BK510.out; obtain ⟨hfz22_0,hfz22_1⟩ := fz2 BK510.out) | ((with_reducible refine gate_dst (N:=36) rfl ?_); (try (refine gate_guard (by rfl) ?_; dsimp only)); refine Kd.R_lit Kd.string _ 9 ?hg (N:=36) ?hd (xs := ([(⟨#[49]⟩ : ByteArray),(⟨#[50]⟩ : ByteArray),(⟨#[51]⟩ : ByteArray)] : List ByteArray)) (inner := [.string (⟨#[49]⟩ : ByteArray),.string (⟨#[50]⟩ : ByteArray),.string (⟨#[51]⟩ : ByteArray)]) (ok := fun _ => True) (okp := fun _ => True) ?hr ?hp (fun _ hk => hk) trivial (Below.refl _ _) (Nat.le_refl _) (by simp) ?_; (case hd => rfl); (case hg => rfl); (case hr => first | (go_simp; done) | (go_simp; rfl)); (case hp => exact (Reps.one (show Kd.M Kd.string _ _ _ (⟨#[49]⟩ : ByteArray) [.string (⟨#[49]⟩ : ByteArray)] from rfl) (Reps.one (show Kd.M Kd.string _ _ _ (⟨#[50]⟩ : ByteArray) [.string (⟨#[50]⟩ : ByteArray)] from rfl) (Reps.one (show Kd.M Kd.string _ _ _ (⟨#[51]⟩ : ByteArray) [.string (⟨#[51]⟩ : ByteArray)] from rfl) (Reps.none _ _))))); intro v512 w23 ho24 hb hg_ hnew_; clear hg_ hnew_; (first | rw [← Ny511.out] at ho24 | (simp only [Int.reduceToNat] at ho24; rw [← Ny511.out] at ho24)); replace HO508 := Aside0.mk (Kd.R_below (by (with_reducible repeat (first | apply Kd.R_alloc | apply Kd.R_drewN | apply Kd.R_drew)); exact (Kd.R_mono (Kd.R_far (p:=⟨gb510,1,none⟩) (Kd.R_far (p:=⟨gb510,0,none⟩) (Kd.R_types HO508.out BK510.out (by decide)) (fun _ hk => hk.2) (.slice Ao21 t506.length co21)) (fun _ hk => hk.2) (.int .i64 t509)) (fun _ h_ => h_.1))) hb); have HO513 := Aside0.mk (Kd.R_lower ho24 (below_size bA)); replace BK510 := Aside0.mk (blk_below (g:=gb510) (o:=.cells #[.slice Ao21 t506.length co21,.int .i64 t509] 25 (0,0)) (kP2 BK510.out) hb); replace HB := bsA hb; clear hb ho24) | ((with_reducible refine gate_callee (f:=7) rfl ?_); refine goesL_ (some 38) rfl rfl Try.func7 (by kernel_rfl) rfl #[.slice A1 l1.length c1,.int .i64 0,.int .i64 3] rfl mA ?_; (with_reducible refine (laws_at.calls _ _ l1 0 3 t514 _ ?side1 ?side2 A7.out).mono ?_); (case side1 => exact sC HR1.out); (case side2 => exact HC1.out); rintro e w' ⟨rfl,⟨nd,rfl⟩⟩; refine ⟨_,rfl,?_⟩; (try (rw [drewN_self w23]; generalize hq_ : World.drewN w23 _ = w23; have n0_ : Aside0 (Kd.R k32 32 w23 w.heap.size (fun _ => True) (.slice Ao21 t506.length co21) t506) := ⟨by rw [← hq_]; exact (rA HO508.out)⟩; have n1_ : Aside0 (Kd.R Kd.string 9 w23 w.heap.size (fun _ => True) v512 y511) := ⟨by rw [← hq_]; exact (rA HO513.out)⟩; have n2_ : Aside0 (w23.heap[gb510]? = some (.cells #[.slice Ao21 t506.length co21,.int .i64 t509] 25 (0,0))) := ⟨by rw [← hq_]; exact (kA BK510.out)⟩; have n3_ : Aside0 (Below w.heap.size w w23) := ⟨by rw [← hq_]; exact bA⟩; clear HO508 HO513 BK510 HB hq_; have HO508 := n0_; have HO513 := n1_; have BK510 := n2_; have HB := n3_; clear n0_ n1_ n2_ n3_)); obtain ⟨Ao25,co25,eo25⟩ := Kd.R_slice HO513.out; subst eo25; have p515 : 0 ≤ (t514 : Int) := od; have q515 : t514 < (y511.length : Int) := od; obtain ⟨ad515,e515,hx515_0⟩ := Kd.at_string (Kd.R_reads' HO513.out).2.2 t514 p515 q515; cases e515; replace p515 := eq_true p515; replace q515 := eq_true q515) | ((with_reducible refine gate_callee (f:=7) rfl ?_); refine goesL_ (some 44) rfl rfl Try.func7 (by kernel_rfl) rfl #[.slice A1 l1.length c1,.int .i64 1,.int .i64 9] rfl mA ?_; (with_reducible refine (laws_at.calls _ _ l1 1 9 t516 _ ?side1 ?side2 A11.out).mono ?_); (case side1 => exact sC HR1.out); (case side2 => exact HC1.out); rintro e w' ⟨rfl,⟨nd,rfl⟩⟩; refine ⟨_,rfl,?_⟩; (try (rw [drewN_self w23]; generalize hq_ : World.drewN w23 _ = w23; have n0_ : Aside0 (Kd.R k32 32 w23 w.heap.size (fun _ => True) (.slice Ao21 t506.length co21) t506) := ⟨by rw [← hq_]; exact (rA HO508.out)⟩; have n1_ : Aside0 (Kd.R Kd.string 9 w23 w.heap.size (fun _ => True) (.slice (some ad515) y511.length co25) y511) := ⟨by rw [← hq_]; exact (rA HO513.out)⟩; have n2_ : Aside0 (w23.heap[gb510]? = some (.cells #[.slice Ao21 t506.length co21,.int .i64 t509] 25 (0,0))) := ⟨by rw [← hq_]; exact (kA BK510.out)⟩; have n3_ : Aside0 (Below w.heap.size w w23) := ⟨by rw [← hq_]; exact bA⟩; clear HO508 HO513 BK510 HB hq_; have HO508 := n0_; have HO513 := n1_; have BK510 := n2_; have HB := n3_; clear n0_ n1_ n2_ n3_))) | ((with_reducible refine gate_callee (f:=11) rfl ?_); refine goesL_ (some 45) rfl rfl Try.func11 (by kernel_rfl) rfl #[.slice A1 l1.length c1,.int .i64 t516] rfl mA ?_; (with_reducible refine (spec_TextOf.calls kj2 _ _ l1 t516 t517 _ ?side1 ?side2 A12.out).mono ?_); (case side1 => exact sC HR1.out); (case side2 => exact HC1.out); rintro e w26 ⟨rfl,hb⟩; refine ⟨_,rfl,?_⟩; replace HO508 := Aside0.mk (Kd.R_below (rA HO508.out) hb); replace HO513 := Aside0.mk (Kd.R_below (rA HO513.out) hb); replace BK510 := bbA BK510 hb; replace HB := bsA hb; clear hb; obtain ⟨hcz27_0,hcz27_1⟩ := cl2 BK510.out; obtain ⟨hfz27_0,hfz27_1⟩ := fz2 BK510.out) | ((with_reducible refine gate_callee (f:=12) rfl ?_); refine goesL_ (some 50) rfl rfl Try.func12 (by kernel_rfl) rfl #[.agg #[.slice Ao21 t506.length co21,.int .i64 t509],.string ((⟨#[109,47]⟩ : ByteArray) ++ (rdOf ByteArray.empty y511 t514)),.string t517] rfl mA ?_; (with_reducible refine (impl_PutAbsent.calls kj2 _ _ t506 t509 ((⟨#[109,47]⟩ : ByteArray) ++ (rdOf ByteArray.empty y511 t514)) t517 t518 t521 t522 t523 _ ?side1 ?side2 A13.out).mono ?_); (case side1 => repeat (first | exact (Kd.R_reads' HO508.out).2.2 | (with_reducible refine Kd.C_alloc ?_ _) | (with_reducible refine Kd.C_drewN ?_ _) | (with_reducible refine Kd.C_drew ?_))); (case side2 => exact (Kd.R_reads' HO508.out).2.1); rintro e w28 ⟨v519,rfl,ho0,hb⟩; refine ⟨_,rfl,?_⟩; replace HO513 := Aside0.mk (Kd.R_below (rA HO513.out) hb); have HO520 := Aside0.mk (Kd.R_lower (Kd.R_new' ho0 (Kd.R_lt (rA HO508.out))) (below_size bA)); replace HO508 := Aside0.mk (Kd.R_elder' (rA HO508.out) (Kd.R_base ho0) hb); replace BK510 := bbA BK510 hb; replace HB := bsA hb; clear hb; (try clear ho0)) | ((with_reducible refine gate_dst (N:=8) rfl ?_); (try (refine gate_guard (by rfl) ?_; dsimp only)); refine bxe (N:=8) (cs := #[.slice none 0 0,.int .i64 0]) (t:=25) ?_; intro gb524 hg w29 hbox hb; replace HO508 := Aside0.mk (Kd.R_below (rA HO508.out) hb); replace HO513 := Aside0.mk (Kd.R_below (rA HO513.out) hb); replace HO520 := Aside0.mk (Kd.R_below (rA HO520.out) hb); have BK524 := Aside0.mk (hbox); have GW524 := Aside0.mk ((gw hg : w.heap.size ≤ gb524)); have GE524 := GW524; replace HB := bsA hb; have NB510_524 := Aside0.mk ((nl hg BK510.out)); have NB524_510 := Aside0.mk ((ng hg BK510.out)); replace BK510 := bbA BK510 hb; clear hb hbox hg; obtain ⟨Ao30,co30,eo30⟩ := Kd.R_slice HO520.out; subst eo30; have hnb31 := NB524_510.out; have hnc31 := NB510_524.out; obtain ⟨hcz32_0,hcz32_1⟩ := cl2 BK524.out; obtain ⟨hfz32_0,hfz32_1⟩ := fz2 BK524.out; obtain ⟨hcz33_0,hcz33_1⟩ := cl2 BK510.out; obtain ⟨hfz33_0,hfz33_1⟩ := fz2 BK510.out) | ((with_reducible refine gate_callee (f:=13) rfl ?_); refine goesL_ (some 58) rfl rfl Try.func13 (by kernel_rfl) rfl #[.agg #[.slice Ao21 t506.length co21,.int .i64 t509],.string ((⟨#[109,47]⟩ : ByteArray) ++ (rdOf ByteArray.empty y511 t514)),.string t517] rfl mA ?_; (with_reducible refine (spec_PutAbsent.calls kj2 _ _ t506 t509 ((⟨#[109,47]⟩ : ByteArray) ++ (rdOf ByteArray.empty y511 t514)) t517 t525 t528 t529 t530 _ ?side1 ?side2 A14.out).mono ?_); (case side1 => refine (Kd.R_reads' (e:=32) (base := w.heap.size) (ok := fun k_ => (True ∧ some k_ ≠ (.slice Ao30 t518.length co30 : Value).ownBlock)) (n:=t506.length) (c:=co21) ?_).2.2; exact (by (with_reducible repeat (first | apply Kd.R_alloc | apply Kd.R_drewN | apply Kd.R_drew)); exact (Kd.R_mono (Kd.R_far (p:=⟨gb524,1,none⟩) (Kd.R_far (p:=⟨gb524,0,none⟩) (Kd.R_types HO508.out BK524.out (by decide)) (fun _ hk => hk.2) (.slice Ao30 t518.length co30)) (fun _ hk => hk.2) (.int .i64 t521)) (fun _ h_ => h_.1)))); (case side2 => exact (Kd.R_reads' HO508.out).2.1); rintro e w34 ⟨v526,rfl,ho0,hb⟩; refine ⟨_,rfl,?_⟩; replace HO513 := Aside0.mk (Kd.R_below (by (with_reducible repeat (first | apply Kd.R_alloc | apply Kd.R_drewN | apply Kd.R_drew)); exact (Kd.R_mono (Kd.R_far (p:=⟨gb524,1,none⟩) (Kd.R_far (p:=⟨gb524,0,none⟩) (Kd.R_types HO513.out BK524.out (by decide)) (fun _ hk => hk.2) (.slice Ao30 t518.length co30)) (fun _ hk => hk.2) (.int .i64 t521)) (fun _ h_ => h_.1))) hb); have HO527 := Aside0.mk (Kd.R_lower (Kd.R_new' (Kd.R_new' ho0 (Kd.R_lt (by (with_reducible repeat (first | apply Kd.R_alloc | apply Kd.R_drewN | apply Kd.R_drew)); exact (Kd.R_mono (Kd.R_far (p:=⟨gb524,1,none⟩) (Kd.R_far (p:=⟨gb524,0,none⟩) (Kd.R_types HO508.out BK524.out (by decide)) (fun _ hk => hk.2) (.slice Ao30 t518.length co30)) (fun _ hk => hk.2) (.int .i64 t521)) (fun _ h_ => h_.1))))) (Kd.R_lt (by (with_reducible repeat (first | apply Kd.R_alloc | apply Kd.R_drewN | apply Kd.R_drew)); exact (Kd.R_mono (Kd.R_far (p:=⟨gb524,1,none⟩) (Kd.R_far (p:=⟨gb524,0,none⟩) (Kd.R_types HO520.out BK524.out (by decide)) (fun _ hk => hk.2) (.slice Ao30 t518.length co30)) (fun _ hk => hk.2) (.int .i64 t521)) (fun _ h_ => h_.1))))) (below_size bA)); replace HO508 := Aside0.mk (Kd.R_elder' (by (with_reducible repeat (first | apply Kd.R_alloc | apply Kd.R_drewN | apply Kd.R_drew)); exact (Kd.R_mono (Kd.R_far (p:=⟨gb524,1,none⟩) (Kd.R_far (p:=⟨gb524,0,none⟩) (Kd.R_types HO508.out BK524.out (by decide)) (fun _ hk => hk.2) (.slice Ao30 t518.length co30)) (fun _ hk => hk.2) (.int .i64 t521)) (fun _ h_ => h_.1))) (Kd.R_base ho0) hb); replace HO520 := Aside0.mk (Kd.R_elder' (by (with_reducible repeat (first | apply Kd.R_alloc | apply Kd.R_drewN | apply Kd.R_drew)); exact (Kd.R_mono (Kd.R_far (p:=⟨gb524,1,none⟩) (Kd.R_far (p:=⟨gb524,0,none⟩) (Kd.R_types HO520.out BK524.out (by decide)) (fun _ hk => hk.2) (.slice Ao30 t518.length co30)) (fun _ hk => hk.2) (.int .i64 t521)) (fun _ h_ => h_.1))) (Kd.R_base ho0) hb); replace BK510 := Aside0.mk (bc BK510.out hb); replace BK524 := Aside0.mk (blk_below (g:=gb524) (o:=.cells #[.slice Ao30 t518.length co30,.int .i64 t521] 25 (0,0)) (kP2 BK524.out) hb); replace HB := bsA hb; clear hb; (try clear ho0)) | ((with_reducible refine gate_dst (N:=11) rfl ?_); (try (refine gate_guard (by rfl) ?_; dsimp only)); refine bxe (N:=11) (cs := #[.slice none 0 0,.int .i64 0]) (t:=25) ?_; intro gb531 hg w35 hbox hb; replace HO508 := Aside0.mk (Kd.R_below (rA HO508.out) hb); replace HO513 := Aside0.mk (Kd.R_below (rA HO513.out) hb); replace HO520 := Aside0.mk (Kd.R_below (rA HO520.out) hb); replace HO527 := Aside0.mk (Kd.R_below (rA HO527.out) hb); have BK531 := Aside0.mk (hbox); have GW531 := Aside0.mk ((gw hg : w.heap.size ≤ gb531)); have GE531 := GW531; replace HB := bsA hb; have NB510_531 := Aside0.mk ((nl hg BK510.out)); have NB531_510 := Aside0.mk ((ng hg BK510.out)); replace BK510 := bbA BK510 hb; have NB524_531 := Aside0.mk ((nl hg BK524.out)); have NB531_524 := Aside0.mk ((ng hg BK524.out)); replace BK524 := bbA BK524 hb; clear hb hbox hg; obtain ⟨Ao36,co36,eo36⟩ := Kd.R_slice HO527.out; subst eo36; have hnb37 := NB531_510.out; have hnc37 := NB510_531.out; have hnb38 := NB531_524.out; have hnc38 := NB524_531.out; obtain ⟨hcz39_0,hcz39_1⟩ := cl2 BK531.out; obtain ⟨hfz39_0,hfz39_1⟩ := fz2 BK531.out; obtain ⟨hcz40_0,hcz40_1⟩ := cl2 BK524.out; obtain ⟨hfz40_0,hfz40_1⟩ := fz2 BK524.out) | ((with_reducible refine gate_callee (f:=14) rfl ?_); refine goesL_ (some 65) rfl rfl Try.func14 (by kernel_rfl) rfl #[.agg #[.slice Ao30 t518.length co30,.int .i64 t521],.string ((⟨#[109,47]⟩ : ByteArray) ++ (rdOf ByteArray.empty y511 t514))] rfl mA ?_; (with_reducible refine (impl_GetObject.calls kj2 _ _ t518 t521 ((⟨#[109,47]⟩ : ByteArray) ++ (rdOf ByteArray.empty y511 t514)) t532 t533 t534 _ ?side1 ?side2 A15.out).mono ?_); (case side1 => refine (Kd.R_reads' (e:=32) (base := w.heap.size) (ok := fun k_ => ((True ∧ some k_ ≠ (.slice Ao21 t506.length co21 : Value).ownBlock) ∧ some k_ ≠ (.slice Ao36 t525.length co36 : Value).ownBlock)) (n:=t518.length) (c:=co30) ?_).2.2; exact (by (with_reducible repeat (first | apply Kd.R_alloc | apply Kd.R_drewN | apply Kd.R_drew)); exact (Kd.R_mono (Kd.R_far (p:=⟨gb531,1,none⟩) (Kd.R_far (p:=⟨gb531,0,none⟩) (Kd.R_types HO520.out BK531.out (by decide)) (fun _ hk => hk.2) (.slice Ao36 t525.length co36)) (fun _ hk => hk.2) (.int .i64 t528)) (fun _ h_ => h_.1)))); (case side2 => exact (Kd.R_reads' HO520.out).2.1); rintro e w41 ⟨rfl,hb⟩; refine ⟨_,rfl,?_⟩; replace HO508 := Aside0.mk (Kd.R_below (by (with_reducible repeat (first | apply Kd.R_alloc | apply Kd.R_drewN | apply Kd.R_drew)); exact (Kd.R_mono (Kd.R_far (p:=⟨gb531,1,none⟩) (Kd.R_far (p:=⟨gb531,0,none⟩) (Kd.R_types HO508.out BK531.out (by decide)) (fun _ hk => hk.2) (.slice Ao36 t525.length co36)) (fun _ hk => hk.2) (.int .i64 t528)) (fun _ h_ => h_.1))) hb); replace HO513 := Aside0.mk (Kd.R_below (by (with_reducible repeat (first | apply Kd.R_alloc | apply Kd.R_drewN | apply Kd.R_drew)); exact (Kd.R_mono (Kd.R_far (p:=⟨gb531,1,none⟩) (Kd.R_far (p:=⟨gb531,0,none⟩) (Kd.R_types HO513.out BK531.out (by decide)) (fun _ hk => hk.2) (.slice Ao36 t525.length co36)) (fun _ hk => hk.2) (.int .i64 t528)) (fun _ h_ => h_.1))) hb); replace HO520 := Aside0.mk (Kd.R_below (by (with_reducible repeat (first | apply Kd.R_alloc | apply Kd.R_drewN | apply Kd.R_drew)); exact (Kd.R_mono (Kd.R_far (p:=⟨gb531,1,none⟩) (Kd.R_far (p:=⟨gb531,0,none⟩) (Kd.R_types HO520.out BK531.out (by decide)) (fun _ hk => hk.2) (.slice Ao36 t525.length co36)) (fun _ hk => hk.2) (.int .i64 t528)) (fun _ h_ => h_.1))) hb); replace HO527 := Aside0.mk (Kd.R_below (by (with_reducible repeat (first | apply Kd.R_alloc | apply Kd.R_drewN | apply Kd.R_drew)); exact (Kd.R_mono (Kd.R_far (p:=⟨gb531,1,none⟩) (Kd.R_far (p:=⟨gb531,0,none⟩) (Kd.R_types HO527.out BK531.out (by decide)) (fun _ hk => hk.2) (.slice Ao36 t525.length co36)) (fun _ hk => hk.2) (.int .i64 t528)) (fun _ h_ => h_.1))) hb); replace BK510 := Aside0.mk (bc BK510.out hb); replace BK524 := Aside0.mk (bc BK524.out hb); replace BK531 := Aside0.mk (blk_below (g:=gb531) (o:=.cells #[.slice Ao36 t525.length co36,.int .i64 t528] 25 (0,0)) (kP2 BK531.out) hb); replace HB := bsA hb; clear hb; obtain ⟨hcz42_0,hcz42_1⟩ := cl2 BK524.out; obtain ⟨hfz42_0,hfz42_1⟩ := fz2 BK524.out) | ((with_reducible refine gate_callee (f:=15) rfl ?_); refine goesL_ (some 73) rfl rfl Try.func15 (by kernel_rfl) rfl #[.agg #[.slice Ao30 t518.length co30,.int .i64 t521],.string ((⟨#[109,47]⟩ : ByteArray) ++ (rdOf ByteArray.empty y511 t514)),.int .i64 t522] rfl mA ?_; (with_reducible refine (impl_DeleteVersion.calls kj2 _ _ t518 t521 ((⟨#[109,47]⟩ : ByteArray) ++ (rdOf ByteArray.empty y511 t514)) t522 t535 t538 t539 _ ?side1 ?side2 A16.out).mono ?_); (case side1 => repeat (first | exact (Kd.R_reads' HO520.out).2.2 | (with_reducible refine Kd.C_alloc ?_ _) | (with_reducible refine Kd.C_drewN ?_ _) | (with_reducible refine Kd.C_drew ?_))); (case side2 => exact (Kd.R_reads' HO520.out).2.1); rintro e w43 ⟨v536,rfl,ho0,hb⟩; refine ⟨_,rfl,?_⟩; replace HO513 := Aside0.mk (Kd.R_below (rA HO513.out) hb); have HO537 := Aside0.mk (Kd.R_lower (Kd.R_new' (Kd.R_new' (Kd.R_new' ho0 (Kd.R_lt (rA HO508.out))) (Kd.R_lt (rA HO520.out))) (Kd.R_lt (rA HO527.out))) (below_size bA)); replace HO508 := Aside0.mk (Kd.R_elder' (rA HO508.out) (Kd.R_base ho0) hb); replace HO520 := Aside0.mk (Kd.R_elder' (rA HO520.out) (Kd.R_base ho0) hb); replace HO527 := Aside0.mk (Kd.R_elder' (rA HO527.out) (Kd.R_base ho0) hb); replace BK510 := bbA BK510 hb; replace BK524 := bbA BK524 hb; replace BK531 := bbA BK531 hb; replace HB := bsA hb; clear hb; (try clear ho0)) | ((with_reducible refine gate_dst (N:=17) rfl ?_); (try (refine gate_guard (by rfl) ?_; dsimp only)); refine bxe (N:=17) (cs := #[.slice none 0 0,.int .i64 0]) (t:=25) ?_; intro gb540 hg w44 hbox hb; replace HO508 := Aside0.mk (Kd.R_below (rA HO508.out) hb); replace HO513 := Aside0.mk (Kd.R_below (rA HO513.out) hb); replace HO520 := Aside0.mk (Kd.R_below (rA HO520.out) hb); replace HO527 := Aside0.mk (Kd.R_below (rA HO527.out) hb); replace HO537 := Aside0.mk (Kd.R_below (rA HO537.out) hb); have BK540 := Aside0.mk (hbox); have GW540 := Aside0.mk ((gw hg : w.heap.size ≤ gb540)); have GE540 := GW540; replace HB := bsA hb; have NB510_540 := Aside0.mk ((nl hg BK510.out)); have NB540_510 := Aside0.mk ((ng hg BK510.out)); replace BK510 := bbA BK510 hb; have NB524_540 := Aside0.mk ((nl hg BK524.out)); have NB540_524 := Aside0.mk ((ng hg BK524.out)); replace BK524 := bbA BK524 hb; have NB531_540 := Aside0.mk ((nl hg BK531.out)); have NB540_531 := Aside0.mk ((ng hg BK531.out)); replace BK531 := bbA BK531 hb; clear hb hbox hg; obtain ⟨Ao45,co45,eo45⟩ := Kd.R_slice HO537.out; subst eo45; have hnb46 := NB540_510.out; have hnc46 := NB510_540.out; have hnb47 := NB540_524.out; have hnc47 := NB524_540.out; have hnb48 := NB540_531.out; have hnc48 := NB531_540.out; obtain ⟨hcz49_0,hcz49_1⟩ := cl2 BK540.out; obtain ⟨hfz49_0,hfz49_1⟩ := fz2 BK540.out) | ((with_reducible refine gate_callee (f:=14) rfl ?_); refine goesL_ (some 79) rfl rfl Try.func14 (by kernel_rfl) rfl #[.agg #[.slice Ao45 t535.length co45,.int .i64 t538],.string ((⟨#[109,47]⟩ : ByteArray) ++ (rdOf ByteArray.empty y511 t514))] rfl mA ?_; (with_reducible refine (impl_GetObject.calls kj2 _ _ t535 t538 ((⟨#[109,47]⟩ : ByteArray) ++ (rdOf ByteArray.empty y511 t514)) t541 t542 t543 _ ?side1 ?side2 A17.out).mono ?_); (case side1 => refine (Kd.R_reads' (e:=32) (base := w.heap.size) (ok := fun k_ => (((True ∧ some k_ ≠ (.slice Ao21 t506.length co21 : Value).ownBlock) ∧ some k_ ≠ (.slice Ao30 t518.length co30 : Value).ownBlock) ∧ some k_ ≠ (.slice Ao36 t525.length co36 : Value).ownBlock)) (n:=t535.length) (c:=co45) ?_).2.2; exact (by (with_reducible repeat (first | apply Kd.R_alloc | apply Kd.R_drewN | apply Kd.R_drew)); exact (Kd.R_mono (Kd.R_far (p:=⟨gb540,1,none⟩) (Kd.R_far (p:=⟨gb540,0,none⟩) (Kd.R_types HO537.out BK540.out (by decide)) (fun _ hk => hk.2) (.slice Ao45 t535.length co45)) (fun _ hk => hk.2) (.int .i64 t538)) (fun _ h_ => h_.1)))); (case side2 => exact (Kd.R_reads' HO537.out).2.1); rintro e w50 ⟨rfl,hb⟩; refine ⟨_,rfl,?_⟩; replace HO508 := Aside0.mk (Kd.R_below (by (with_reducible repeat (first | apply Kd.R_alloc | apply Kd.R_drewN | apply Kd.R_drew)); exact (Kd.R_mono (Kd.R_far (p:=⟨gb540,1,none⟩) (Kd.R_far (p:=⟨gb540,0,none⟩) (Kd.R_types HO508.out BK540.out (by decide)) (fun _ hk => hk.2) (.slice Ao45 t535.length co45)) (fun _ hk => hk.2) (.int .i64 t538)) (fun _ h_ => h_.1))) hb); replace HO513 := Aside0.mk (Kd.R_below (by (with_reducible repeat (first | apply Kd.R_alloc | apply Kd.R_drewN | apply Kd.R_drew)); exact (Kd.R_mono (Kd.R_far (p:=⟨gb540,1,none⟩) (Kd.R_far (p:=⟨gb540,0,none⟩) (Kd.R_types HO513.out BK540.out (by decide)) (fun _ hk => hk.2) (.slice Ao45 t535.length co45)) (fun _ hk => hk.2) (.int .i64 t538)) (fun _ h_ => h_.1))) hb); replace HO520 := Aside0.mk (Kd.R_below (by (with_reducible repeat (first | apply Kd.R_alloc | apply Kd.R_drewN | apply Kd.R_drew)); exact (Kd.R_mono (Kd.R_far (p:=⟨gb540,1,none⟩) (Kd.R_far (p:=⟨gb540,0,none⟩) (Kd.R_types HO520.out BK540.out (by decide)) (fun _ hk => hk.2) (.slice Ao45 t535.length co45)) (fun _ hk => hk.2) (.int .i64 t538)) (fun _ h_ => h_.1))) hb); replace HO527 := Aside0.mk (Kd.R_below (by (with_reducible repeat (first | apply Kd.R_alloc | apply Kd.R_drewN | apply Kd.R_drew)); exact (Kd.R_mono (Kd.R_far (p:=⟨gb540,1,none⟩) (Kd.R_far (p:=⟨gb540,0,none⟩) (Kd.R_types HO527.out BK540.out (by decide)) (fun _ hk => hk.2) (.slice Ao45 t535.length co45)) (fun _ hk => hk.2) (.int .i64 t538)) (fun _ h_ => h_.1))) hb); replace HO537 := Aside0.mk (Kd.R_below (by (with_reducible repeat (first | apply Kd.R_alloc | apply Kd.R_drewN | apply Kd.R_drew)); exact (Kd.R_mono (Kd.R_far (p:=⟨gb540,1,none⟩) (Kd.R_far (p:=⟨gb540,0,none⟩) (Kd.R_types HO537.out BK540.out (by decide)) (fun _ hk => hk.2) (.slice Ao45 t535.length co45)) (fun _ hk => hk.2) (.int .i64 t538)) (fun _ h_ => h_.1))) hb); replace BK510 := Aside0.mk (bc BK510.out hb); replace BK524 := Aside0.mk (bc BK524.out hb); replace BK531 := Aside0.mk (bc BK531.out hb); replace BK540 := Aside0.mk (blk_below (g:=gb540) (o:=.cells #[.slice Ao45 t535.length co45,.int .i64 t538] 25 (0,0)) (kP2 BK540.out) hb); replace HB := bsA hb; clear hb))
        (try simp only [Act.put,setIfInBounds_toArray,set_cons_zero,set_cons_succ])
        rename_i zp3_1 zp3_2 zp3_3 zp3_4 zp3_5 zp3_6 zp3_7; revert k A0 c0 l0 A1 c1 l1 r w hu25 hu32 HR0 HC0 HR1 HC1 zq2_1 zq2_2 wc u26 u27 u28 u29 u30 u31 u32 u34 u35 u36 u37 u38 u39 u40 u41 u42 u43 u44 u45 u46 u47 u48 u49 u50 u51 u52 u53 u54 u55 u56 u57 u58 u59 u60 u61 u62 u63 u64 u65 u66 u67 u68 u69 u70 u71 u72 u73 u74 u75 u76 u77 u78 u79 u80 u81 u82 u83 u84 u85 u86 u87 u88 u89 u90 u91 u92 u93 u94 u95 u96 u97 u98 u99 u100 u101 u102 u103 u104 u105 u106 u107 u108 u109 u110 u111 u112 u113 u114 u115 u116 u117 u118 u119 u120 u121 u122 u123 u124 u125 u126 u127 u128 u129 u130 u131 u132 u133 u134 u135 u136 u137 u138 u139 u140 u141 u142 u143 u144 u145 u146 u147 u148 u149 u150 u151 u152 u153 u154 u155 u156 u157 u158 u159 u160 u161 u162 u163 u164 u165 u166 u167 u168 u169 u170 u171 u172 u173 u174 u175 u176 u177 u178 u179 u180 u181 u182 u183 u184 u185 u186 u187 u188 u189 u190 u191 u192 u193 u194 u195 kj2 HJ2 t506 t509 A6 y511 Ny511 t514 A7 c8b0 c9b0 c10 c10b0 c10b1 c10b2 t516 A11 t517 A12 t518 t521 t522 t523 A13 t525 t528 t529 t530 A14 t532 t533 t534 A15 t535 t538 t539 A16 t541 t542 t543 A17 HC18 w19 gb510 w20 GW510 GE510 Ao21 co21 hcz22_0 hcz22_1 hfz22_0 hfz22_1 zp3_1 zp3_2 zp3_3 co25 ad515 hx515_0 p515 q515 nd w23 w26 hcz27_0 hcz27_1 hfz27_0 hfz27_1 w28 gb524 w29 GW524 GE524 NB510_524 NB524_510 Ao30 co30 hnb31 hnc31 hcz32_0 hcz32_1 hfz32_0 hfz32_1 hcz33_0 hcz33_1 hfz33_0 hfz33_1 w34 gb531 w35 GW531 GE531 NB510_531 NB531_510 NB524_531 NB531_524 Ao36 co36 hnb37 hnc37 hnb38 hnc38 hcz39_0 hcz39_1 hfz39_0 hfz39_1 hcz40_0 hcz40_1 hfz40_0 hfz40_1 w41 hcz42_0 hcz42_1 hfz42_0 hfz42_1 w43 gb540 w44 GW540 GE540 NB510_540 NB540_510 NB524_540 NB540_524 NB531_540 NB540_531 Ao45 co45 hnb46 hnc46 hnb47 hnc47 hnb48 hnc48 hcz49_0 hcz49_1 hfz49_0 hfz49_1 w50 HO508 HO513 HO520 HO527 HO537 BK510 BK524 BK531 BK540 HB zp3_4 zp3_5 zp3_6 zp3_7; exact hm_.out
set_option maxHeartbeats 8000000 in
set_option maxRecDepth 100000 in
noncomputable def FnStore_cut4 : PSigma (fun M_ : Prop => CutW M_ → FnStore_cut3.1) := by
       apply PSigma.mk
       case snd =>
        intro hm_
        intro k A0 c0 l0 A1 c1 l1 r w hu25 hu32 HR0 HC0 HR1 HC1 zq3_1 zq3_2 wc u26 u27 u28 u29 u30 u31 u32 u34 u35 u36 u37 u38 u39 u40 u41 u42 u43 u44 u45 u46 u47 u48 u49 u50 u51 u52 u53 u54 u55 u56 u57 u58 u59 u60 u61 u62 u63 u64 u65 u66 u67 u68 u69 u70 u71 u72 u73 u74 u75 u76 u77 u78 u79 u80 u81 u82 u83 u84 u85 u86 u87 u88 u89 u90 u91 u92 u93 u94 u95 u96 u97 u98 u99 u100 u101 u102 u103 u104 u105 u106 u107 u108 u109 u110 u111 u112 u113 u114 u115 u116 u117 u118 u119 u120 u121 u122 u123 u124 u125 u126 u127 u128 u129 u130 u131 u132 u133 u134 u135 u136 u137 u138 u139 u140 u141 u142 u143 u144 u145 u146 u147 u148 u149 u150 u151 u152 u153 u154 u155 u156 u157 u158 u159 u160 u161 u162 u163 u164 u165 u166 u167 u168 u169 u170 u171 u172 u173 u174 u175 u176 u177 u178 u179 u180 u181 u182 u183 u184 u185 u186 u187 u188 u189 u190 u191 u192 u193 u194 u195 kj2 HJ2 t506 t509 A6 y511 Ny511 t514 A7 c8b0 c9b0 c10 c10b0 c10b1 c10b2 t516 A11 t517 A12 t518 t521 t522 t523 A13 t525 t528 t529 t530 A14 t532 t533 t534 A15 t535 t538 t539 A16 t541 t542 t543 A17 HC18 w19 gb510 w20 GW510 GE510 Ao21 co21 hcz22_0 hcz22_1 hfz22_0 hfz22_1 zq3_3 zq3_4 zq3_5 co25 ad515 hx515_0 p515 q515 nd w23 w26 hcz27_0 hcz27_1 hfz27_0 hfz27_1 w28 gb524 w29 GW524 GE524 NB510_524 NB524_510 Ao30 co30 hnb31 hnc31 hcz32_0 hcz32_1 hfz32_0 hfz32_1 hcz33_0 hcz33_1 hfz33_0 hfz33_1 w34 gb531 w35 GW531 GE531 NB510_531 NB531_510 NB524_531 NB531_524 Ao36 co36 hnb37 hnc37 hnb38 hnc38 hcz39_0 hcz39_1 hfz39_0 hfz39_1 hcz40_0 hcz40_1 hfz40_0 hfz40_1 w41 hcz42_0 hcz42_1 hfz42_0 hfz42_1 w43 gb540 w44 GW540 GE540 NB510_540 NB540_510 NB524_540 NB540_524 NB531_540 NB540_531 Ao45 co45 hnb46 hnc46 hnb47 hnc47 hnb48 hnc48 hcz49_0 hcz49_1 hfz49_0 hfz49_1 w50 HO508 HO513 HO520 HO527 HO537 BK510 BK524 BK531 BK540 HB zq3_6 zq3_7 zq3_8 zq3_9
        go_cut [131] (fun v131 wc => ∃ (kq : Nat) (x131_17 : Bool),v131 = .bool x131_17 ∧ Aside0 (laws_FnStore.j1 kq x131_17 t506 t509 t518 t521 t525 t528 t535 t538 = some r) ∧ Aside0 (kq ≤ kj2) ∧ Aside0 (Kd.R k32 32 wc w.heap.size (fun k_ => some k_ ≠ ((.slice Ao30 t518.length co30) : Value).ownBlock ∧ some k_ ≠ ((.slice Ao36 t525.length co36) : Value).ownBlock ∧ some k_ ≠ ((.slice Ao45 t535.length co45) : Value).ownBlock) (.slice Ao21 t506.length co21) t506) ∧ Aside0 (Kd.R k32 32 wc w.heap.size (fun k_ => some k_ ≠ ((.slice Ao21 t506.length co21) : Value).ownBlock ∧ some k_ ≠ ((.slice Ao36 t525.length co36) : Value).ownBlock ∧ some k_ ≠ ((.slice Ao45 t535.length co45) : Value).ownBlock) (.slice Ao30 t518.length co30) t518) ∧ Aside0 (Kd.R k32 32 wc w.heap.size (fun k_ => some k_ ≠ ((.slice Ao21 t506.length co21) : Value).ownBlock ∧ some k_ ≠ ((.slice Ao30 t518.length co30) : Value).ownBlock ∧ some k_ ≠ ((.slice Ao45 t535.length co45) : Value).ownBlock) (.slice Ao36 t525.length co36) t525) ∧ Aside0 (Kd.R k32 32 wc w.heap.size (fun k_ => some k_ ≠ ((.slice Ao21 t506.length co21) : Value).ownBlock ∧ some k_ ≠ ((.slice Ao30 t518.length co30) : Value).ownBlock ∧ some k_ ≠ ((.slice Ao36 t525.length co36) : Value).ownBlock) (.slice Ao45 t535.length co45) t535) ∧ Aside0 (wc.heap[gb510]? = some (.cells #[(.slice Ao21 t506.length co21),.int .i64 t509] 25 (0,0))) ∧ Aside0 (wc.heap[gb524]? = some (.cells #[(.slice Ao30 t518.length co30),.int .i64 t521] 25 (0,0))) ∧ Aside0 (wc.heap[gb531]? = some (.cells #[(.slice Ao36 t525.length co36),.int .i64 t528] 25 (0,0))) ∧ Aside0 (wc.heap[gb540]? = some (.cells #[(.slice Ao45 t535.length co45),.int .i64 t538] 25 (0,0))) ∧ Aside0 (Below w.heap.size w wc))
        case first =>
         have H := HC18.out
         clear HC18
         by_cases c51 : t523 = 0
         ·rw [if_pos c51] at H
          have c51b0 : (t523 == 0) = true := beq_iff_eq.mpr c51
          have c51b1 : (t523 != 0) = false := bne_eq_false_iff_eq.mpr c51
          clear c51
          (first | rw [c51b0] | (simp only [i64_w,i32_w]; rw [c51b0]) | skip)
          replace H := Option.bind_eq_some_iff.mp H
          obtain ⟨t544,A520,H⟩ := H
          try dsimp only at H
          have A52 := Aside0.mk A520
          clear A520
          by_cases c53 : t544 = true
          ·subst c53
           rw [if_pos rfl] at H
           by_cases c54 : t534 = 0
           ·rw [if_pos c54] at H
            have c54b0 : (t534 == 0) = true := beq_iff_eq.mpr c54
            have c54b1 : (t534 != 0) = false := bne_eq_false_iff_eq.mpr c54
            clear c54
            by_cases c55 : t532.toList = t517.toList
            ·rw [if_pos c55] at H
             have c55b0 : (t532.toList == t517.toList) = true := beq_iff_eq.mpr c55
             have c55b1 : (t532.toList != t517.toList) = false := bne_eq_false_iff_eq.mpr c55
             clear c55
             by_cases c56 : t533 = t522
             ·rw [if_pos c56] at H
              have c56b0 : (t533 == t522) = true := beq_iff_eq.mpr c56
              have c56b1 : (t533 != t522) = false := bne_eq_false_iff_eq.mpr c56
              clear c56
              by_cases c57 : t539 = 0
              ·rw [if_pos c57] at H
               have c57b0 : (t539 == 0) = true := beq_iff_eq.mpr c57
               have c57b1 : (t539 != 0) = false := bne_eq_false_iff_eq.mpr c57
               clear c57
               by_cases c58 : t543 = 5
               ·rw [if_pos c58] at H
                have c58b0 : (t543 == 5) = true := beq_iff_eq.mpr c58
                have c58b1 : (t543 != 5) = false := bne_eq_false_iff_eq.mpr c58
                clear c58
                by_cases c59 : (t535.length : Int) = (t506.length : Int)
                ·rw [if_pos c59] at H
                 have c59b0 : ((t535.length : Int) == (t506.length : Int)) = true := beq_iff_eq.mpr c59
                 have c59b1 : ((t535.length : Int) != (t506.length : Int)) = false := bne_eq_false_iff_eq.mpr c59
                 have c59b2 : (t535.length == t506.length) = true := by first | simpa using c59 | (simp at c59 ⊢; omega)
                 clear c59
                 replace H := Option.bind_eq_some_iff.mp H
                 obtain ⟨t545,A600,H⟩ := H
                 try dsimp only at H
                 have A60 := Aside0.mk A600
                 clear A600
                 by_cases c61 : t545 = true
                 ·subst c61
                  rw [if_pos rfl] at H
                  replace H := Option.bind_eq_some_iff.mp H
                  obtain ⟨t546,A620,H⟩ := H
                  try dsimp only at H
                  have A62 := Aside0.mk A620
                  clear A620
                  have H' := Aside0.mk H
                  clear H
                  have hnb63 := NB524_510.out
                  have hnc63 := NB510_524.out
                  have hnb64 := NB524_531.out
                  have hnc64 := NB531_524.out
                  have hnb65 := NB524_540.out
                  have hnc65 := NB540_524.out
                  obtain ⟨hcz66_0,hcz66_1⟩ := cl2 BK524.out
                  obtain ⟨hfz66_0,hfz66_1⟩ := fz2 BK524.out
                  have hnb67 := NB531_510.out
                  have hnc67 := NB510_531.out
                  have hnb68 := NB531_540.out
                  have hnc68 := NB540_531.out
                  obtain ⟨hcz69_0,hcz69_1⟩ := cl2 BK531.out
                  obtain ⟨hfz69_0,hfz69_1⟩ := fz2 BK531.out
                  go_wp2_with (first | (go_at_call 16; (with_reducible refine (laws_sameStore.calls kj2 _ _ t518 t521 _ _ t525 t528 true _ ?side1 ?side2 ?side3 ?side4 A52.out).mono ?_); (case side1 => repeat (first | exact (Kd.R_reads' HO520.out).2.2 | (with_reducible refine Kd.C_alloc ?_ _) | (with_reducible refine Kd.C_drewN ?_ _) | (with_reducible refine Kd.C_drew ?_))); (case side2 => exact (Kd.R_reads' HO520.out).2.1); (case side3 => repeat (first | exact (Kd.R_reads' HO527.out).2.2 | (with_reducible refine Kd.C_alloc ?_ _) | (with_reducible refine Kd.C_drewN ?_ _) | (with_reducible refine Kd.C_drew ?_))); (case side4 => exact (Kd.R_reads' HO527.out).2.1); rintro e w70 ⟨rfl,hb⟩; replace HO508 := Aside0.mk (Kd.R_below (rA HO508.out) hb); replace HO513 := Aside0.mk (Kd.R_below (rA HO513.out) hb); replace HO520 := Aside0.mk (Kd.R_below (rA HO520.out) hb); replace HO527 := Aside0.mk (Kd.R_below (rA HO527.out) hb); replace HO537 := Aside0.mk (Kd.R_below (rA HO537.out) hb); replace BK510 := bbA BK510 hb; replace BK524 := bbA BK524 hb; replace BK531 := bbA BK531 hb; replace BK540 := bbA BK540 hb; replace HB := bsA hb; clear hb; have hnb71 := NB540_510.out; have hnc71 := NB510_540.out; obtain ⟨hcz72_0,hcz72_1⟩ := cl2 BK540.out; obtain ⟨hfz72_0,hfz72_1⟩ := fz2 BK540.out; obtain ⟨hcz73_0,hcz73_1⟩ := cl2 BK510.out; obtain ⟨hfz73_0,hfz73_1⟩ := fz2 BK510.out; obtain ⟨hcz74_0,hcz74_1⟩ := cl2 BK524.out; obtain ⟨hfz74_0,hfz74_1⟩ := fz2 BK524.out) | (go_at_call 17; (with_reducible refine (impl_StoreOK.calls kj2 _ _ t518 t521 true _ ?side1 ?side2 A60.out).mono ?_); (case side1 => repeat (first | exact (Kd.R_reads' HO520.out).2.2 | (with_reducible refine Kd.C_alloc ?_ _) | (with_reducible refine Kd.C_drewN ?_ _) | (with_reducible refine Kd.C_drew ?_))); (case side2 => exact (Kd.R_reads' HO520.out).2.1); rintro e w75 ⟨rfl,hb⟩; replace HO508 := Aside0.mk (Kd.R_below (rA HO508.out) hb); replace HO513 := Aside0.mk (Kd.R_below (rA HO513.out) hb); replace HO520 := Aside0.mk (Kd.R_below (rA HO520.out) hb); replace HO527 := Aside0.mk (Kd.R_below (rA HO527.out) hb); replace HO537 := Aside0.mk (Kd.R_below (rA HO537.out) hb); replace BK510 := bbA BK510 hb; replace BK524 := bbA BK524 hb; replace BK531 := bbA BK531 hb; replace BK540 := bbA BK540 hb; replace HB := bsA hb; clear hb) | (go_at_call 18; (with_reducible refine (impl_KeyOK.calls kj2 ((⟨#[109,47]⟩ : ByteArray) ++ (rdOf ByteArray.empty y511 t514)) t546 _ A62.out).mono ?_); rintro e w' ⟨rfl,⟨nd,rfl⟩⟩))
                  go_meet
                  case rel => exact ⟨_,(!t546),(by first | rfl | (simp; done) | (simp [*]; done)),H',⟨by have := HJ2.out; first | omega | exact Nat.le_refl _⟩,⟨by (with_reducible repeat (first | apply Kd.R_alloc | apply Kd.R_drewN | apply Kd.R_drew)); exact Kd.R_mono HO508.out (fun _ hk => ⟨hk.1.1.2,⟨hk.1.2,hk.2⟩⟩)⟩,⟨by (with_reducible repeat (first | apply Kd.R_alloc | apply Kd.R_drewN | apply Kd.R_drew)); exact Kd.R_mono HO520.out (fun _ hk => ⟨hk.1.1.2,⟨hk.1.2,hk.2⟩⟩)⟩,⟨by (with_reducible repeat (first | apply Kd.R_alloc | apply Kd.R_drewN | apply Kd.R_drew)); exact Kd.R_mono HO527.out (fun _ hk => ⟨hk.1.1.2,⟨hk.1.2,hk.2⟩⟩)⟩,⟨by (with_reducible repeat (first | apply Kd.R_alloc | apply Kd.R_drewN | apply Kd.R_drew)); exact Kd.R_mono HO537.out (fun _ hk => ⟨hk.1.1.2,⟨hk.1.2,hk.2⟩⟩)⟩,⟨kA BK510.out⟩,⟨kA BK524.out⟩,⟨kA BK531.out⟩,⟨kA BK540.out⟩,⟨bA⟩⟩
                 ·replace c61 := Bool.eq_false_iff.mpr c61
                  subst c61
                  rw [if_neg (show ¬ (false = true) by decide)] at H
                  have H' := Aside0.mk H
                  clear H
                  have hnb76 := NB524_510.out
                  have hnc76 := NB510_524.out
                  have hnb77 := NB524_531.out
                  have hnc77 := NB531_524.out
                  have hnb78 := NB524_540.out
                  have hnc78 := NB540_524.out
                  obtain ⟨hcz79_0,hcz79_1⟩ := cl2 BK524.out
                  obtain ⟨hfz79_0,hfz79_1⟩ := fz2 BK524.out
                  have hnb80 := NB531_510.out
                  have hnc80 := NB510_531.out
                  have hnb81 := NB531_540.out
                  have hnc81 := NB540_531.out
                  obtain ⟨hcz82_0,hcz82_1⟩ := cl2 BK531.out
                  obtain ⟨hfz82_0,hfz82_1⟩ := fz2 BK531.out
                  go_wp2_with (first | (go_at_call 16; (with_reducible refine (laws_sameStore.calls kj2 _ _ t518 t521 _ _ t525 t528 true _ ?side1 ?side2 ?side3 ?side4 A52.out).mono ?_); (case side1 => repeat (first | exact (Kd.R_reads' HO520.out).2.2 | (with_reducible refine Kd.C_alloc ?_ _) | (with_reducible refine Kd.C_drewN ?_ _) | (with_reducible refine Kd.C_drew ?_))); (case side2 => exact (Kd.R_reads' HO520.out).2.1); (case side3 => repeat (first | exact (Kd.R_reads' HO527.out).2.2 | (with_reducible refine Kd.C_alloc ?_ _) | (with_reducible refine Kd.C_drewN ?_ _) | (with_reducible refine Kd.C_drew ?_))); (case side4 => exact (Kd.R_reads' HO527.out).2.1); rintro e w83 ⟨rfl,hb⟩; replace HO508 := Aside0.mk (Kd.R_below (rA HO508.out) hb); replace HO513 := Aside0.mk (Kd.R_below (rA HO513.out) hb); replace HO520 := Aside0.mk (Kd.R_below (rA HO520.out) hb); replace HO527 := Aside0.mk (Kd.R_below (rA HO527.out) hb); replace HO537 := Aside0.mk (Kd.R_below (rA HO537.out) hb); replace BK510 := bbA BK510 hb; replace BK524 := bbA BK524 hb; replace BK531 := bbA BK531 hb; replace BK540 := bbA BK540 hb; replace HB := bsA hb; clear hb; have hnb84 := NB540_510.out; have hnc84 := NB510_540.out; obtain ⟨hcz85_0,hcz85_1⟩ := cl2 BK540.out; obtain ⟨hfz85_0,hfz85_1⟩ := fz2 BK540.out; obtain ⟨hcz86_0,hcz86_1⟩ := cl2 BK510.out; obtain ⟨hfz86_0,hfz86_1⟩ := fz2 BK510.out; obtain ⟨hcz87_0,hcz87_1⟩ := cl2 BK524.out; obtain ⟨hfz87_0,hfz87_1⟩ := fz2 BK524.out) | (go_at_call 17; (with_reducible refine (impl_StoreOK.calls kj2 _ _ t518 t521 false _ ?side1 ?side2 A60.out).mono ?_); (case side1 => repeat (first | exact (Kd.R_reads' HO520.out).2.2 | (with_reducible refine Kd.C_alloc ?_ _) | (with_reducible refine Kd.C_drewN ?_ _) | (with_reducible refine Kd.C_drew ?_))); (case side2 => exact (Kd.R_reads' HO520.out).2.1); rintro e w88 ⟨rfl,hb⟩; replace HO508 := Aside0.mk (Kd.R_below (rA HO508.out) hb); replace HO513 := Aside0.mk (Kd.R_below (rA HO513.out) hb); replace HO520 := Aside0.mk (Kd.R_below (rA HO520.out) hb); replace HO527 := Aside0.mk (Kd.R_below (rA HO527.out) hb); replace HO537 := Aside0.mk (Kd.R_below (rA HO537.out) hb); replace BK510 := bbA BK510 hb; replace BK524 := bbA BK524 hb; replace BK531 := bbA BK531 hb; replace BK540 := bbA BK540 hb; replace HB := bsA hb; clear hb))
                  go_meet
                  case rel => exact ⟨_,(true),(by first | rfl | (simp; done) | (simp [*]; done)),H',⟨by have := HJ2.out; first | omega | exact Nat.le_refl _⟩,⟨by (with_reducible repeat (first | apply Kd.R_alloc | apply Kd.R_drewN | apply Kd.R_drew)); exact Kd.R_mono HO508.out (fun _ hk => ⟨hk.1.1.2,⟨hk.1.2,hk.2⟩⟩)⟩,⟨by (with_reducible repeat (first | apply Kd.R_alloc | apply Kd.R_drewN | apply Kd.R_drew)); exact Kd.R_mono HO520.out (fun _ hk => ⟨hk.1.1.2,⟨hk.1.2,hk.2⟩⟩)⟩,⟨by (with_reducible repeat (first | apply Kd.R_alloc | apply Kd.R_drewN | apply Kd.R_drew)); exact Kd.R_mono HO527.out (fun _ hk => ⟨hk.1.1.2,⟨hk.1.2,hk.2⟩⟩)⟩,⟨by (with_reducible repeat (first | apply Kd.R_alloc | apply Kd.R_drewN | apply Kd.R_drew)); exact Kd.R_mono HO537.out (fun _ hk => ⟨hk.1.1.2,⟨hk.1.2,hk.2⟩⟩)⟩,⟨kA BK510.out⟩,⟨kA BK524.out⟩,⟨kA BK531.out⟩,⟨kA BK540.out⟩,⟨bA⟩⟩
                ·rw [if_neg c59] at H
                 have c59b0 : ((t535.length : Int) == (t506.length : Int)) = false := beq_eq_false_iff_ne.mpr c59
                 have c59b1 : ((t535.length : Int) != (t506.length : Int)) = true := bne_iff_ne.mpr c59
                 have c59b2 : (t535.length == t506.length) = false := by first | simpa using c59 | (simp at c59 ⊢; omega)
                 have H' := Aside0.mk H
                 clear H
                 have hnb89 := NB524_510.out
                 have hnc89 := NB510_524.out
                 have hnb90 := NB524_531.out
                 have hnc90 := NB531_524.out
                 have hnb91 := NB524_540.out
                 have hnc91 := NB540_524.out
                 obtain ⟨hcz92_0,hcz92_1⟩ := cl2 BK524.out
                 obtain ⟨hfz92_0,hfz92_1⟩ := fz2 BK524.out
                 have hnb93 := NB531_510.out
                 have hnc93 := NB510_531.out
                 have hnb94 := NB531_540.out
                 have hnc94 := NB540_531.out
                 obtain ⟨hcz95_0,hcz95_1⟩ := cl2 BK531.out
                 obtain ⟨hfz95_0,hfz95_1⟩ := fz2 BK531.out
                 go_wp2_with (first | (go_at_call 16; (with_reducible refine (laws_sameStore.calls kj2 _ _ t518 t521 _ _ t525 t528 true _ ?side1 ?side2 ?side3 ?side4 A52.out).mono ?_); (case side1 => repeat (first | exact (Kd.R_reads' HO520.out).2.2 | (with_reducible refine Kd.C_alloc ?_ _) | (with_reducible refine Kd.C_drewN ?_ _) | (with_reducible refine Kd.C_drew ?_))); (case side2 => exact (Kd.R_reads' HO520.out).2.1); (case side3 => repeat (first | exact (Kd.R_reads' HO527.out).2.2 | (with_reducible refine Kd.C_alloc ?_ _) | (with_reducible refine Kd.C_drewN ?_ _) | (with_reducible refine Kd.C_drew ?_))); (case side4 => exact (Kd.R_reads' HO527.out).2.1); rintro e w96 ⟨rfl,hb⟩; replace HO508 := Aside0.mk (Kd.R_below (rA HO508.out) hb); replace HO513 := Aside0.mk (Kd.R_below (rA HO513.out) hb); replace HO520 := Aside0.mk (Kd.R_below (rA HO520.out) hb); replace HO527 := Aside0.mk (Kd.R_below (rA HO527.out) hb); replace HO537 := Aside0.mk (Kd.R_below (rA HO537.out) hb); replace BK510 := bbA BK510 hb; replace BK524 := bbA BK524 hb; replace BK531 := bbA BK531 hb; replace BK540 := bbA BK540 hb; replace HB := bsA hb; clear hb; have hnb97 := NB540_510.out; have hnc97 := NB510_540.out; obtain ⟨hcz98_0,hcz98_1⟩ := cl2 BK540.out; obtain ⟨hfz98_0,hfz98_1⟩ := fz2 BK540.out; obtain ⟨hcz99_0,hcz99_1⟩ := cl2 BK510.out; obtain ⟨hfz99_0,hfz99_1⟩ := fz2 BK510.out))
                 go_meet
                 case rel => exact ⟨_,(true),(by first | rfl | (simp; done) | (simp [*]; done)),H',⟨by have := HJ2.out; first | omega | exact Nat.le_refl _⟩,⟨by (with_reducible repeat (first | apply Kd.R_alloc | apply Kd.R_drewN | apply Kd.R_drew)); exact Kd.R_mono HO508.out (fun _ hk => ⟨hk.1.1.2,⟨hk.1.2,hk.2⟩⟩)⟩,⟨by (with_reducible repeat (first | apply Kd.R_alloc | apply Kd.R_drewN | apply Kd.R_drew)); exact Kd.R_mono HO520.out (fun _ hk => ⟨hk.1.1.2,⟨hk.1.2,hk.2⟩⟩)⟩,⟨by (with_reducible repeat (first | apply Kd.R_alloc | apply Kd.R_drewN | apply Kd.R_drew)); exact Kd.R_mono HO527.out (fun _ hk => ⟨hk.1.1.2,⟨hk.1.2,hk.2⟩⟩)⟩,⟨by (with_reducible repeat (first | apply Kd.R_alloc | apply Kd.R_drewN | apply Kd.R_drew)); exact Kd.R_mono HO537.out (fun _ hk => ⟨hk.1.1.2,⟨hk.1.2,hk.2⟩⟩)⟩,⟨kA BK510.out⟩,⟨kA BK524.out⟩,⟨kA BK531.out⟩,⟨kA BK540.out⟩,⟨bA⟩⟩
               ·rw [if_neg c58] at H
                have c58b0 : (t543 == 5) = false := beq_eq_false_iff_ne.mpr c58
                have c58b1 : (t543 != 5) = true := bne_iff_ne.mpr c58
                have H' := Aside0.mk H
                clear H
                have hnb100 := NB524_510.out
                have hnc100 := NB510_524.out
                have hnb101 := NB524_531.out
                have hnc101 := NB531_524.out
                have hnb102 := NB524_540.out
                have hnc102 := NB540_524.out
                obtain ⟨hcz103_0,hcz103_1⟩ := cl2 BK524.out
                obtain ⟨hfz103_0,hfz103_1⟩ := fz2 BK524.out
                have hnb104 := NB531_510.out
                have hnc104 := NB510_531.out
                have hnb105 := NB531_540.out
                have hnc105 := NB540_531.out
                obtain ⟨hcz106_0,hcz106_1⟩ := cl2 BK531.out
                obtain ⟨hfz106_0,hfz106_1⟩ := fz2 BK531.out
                go_wp2_with (first | (go_at_call 16; (with_reducible refine (laws_sameStore.calls kj2 _ _ t518 t521 _ _ t525 t528 true _ ?side1 ?side2 ?side3 ?side4 A52.out).mono ?_); (case side1 => repeat (first | exact (Kd.R_reads' HO520.out).2.2 | (with_reducible refine Kd.C_alloc ?_ _) | (with_reducible refine Kd.C_drewN ?_ _) | (with_reducible refine Kd.C_drew ?_))); (case side2 => exact (Kd.R_reads' HO520.out).2.1); (case side3 => repeat (first | exact (Kd.R_reads' HO527.out).2.2 | (with_reducible refine Kd.C_alloc ?_ _) | (with_reducible refine Kd.C_drewN ?_ _) | (with_reducible refine Kd.C_drew ?_))); (case side4 => exact (Kd.R_reads' HO527.out).2.1); rintro e w107 ⟨rfl,hb⟩; replace HO508 := Aside0.mk (Kd.R_below (rA HO508.out) hb); replace HO513 := Aside0.mk (Kd.R_below (rA HO513.out) hb); replace HO520 := Aside0.mk (Kd.R_below (rA HO520.out) hb); replace HO527 := Aside0.mk (Kd.R_below (rA HO527.out) hb); replace HO537 := Aside0.mk (Kd.R_below (rA HO537.out) hb); replace BK510 := bbA BK510 hb; replace BK524 := bbA BK524 hb; replace BK531 := bbA BK531 hb; replace BK540 := bbA BK540 hb; replace HB := bsA hb; clear hb))
                go_meet
                case rel => exact ⟨_,(true),(by first | rfl | (simp; done) | (simp [*]; done)),H',⟨by have := HJ2.out; first | omega | exact Nat.le_refl _⟩,⟨by (with_reducible repeat (first | apply Kd.R_alloc | apply Kd.R_drewN | apply Kd.R_drew)); exact Kd.R_mono HO508.out (fun _ hk => ⟨hk.1.1.2,⟨hk.1.2,hk.2⟩⟩)⟩,⟨by (with_reducible repeat (first | apply Kd.R_alloc | apply Kd.R_drewN | apply Kd.R_drew)); exact Kd.R_mono HO520.out (fun _ hk => ⟨hk.1.1.2,⟨hk.1.2,hk.2⟩⟩)⟩,⟨by (with_reducible repeat (first | apply Kd.R_alloc | apply Kd.R_drewN | apply Kd.R_drew)); exact Kd.R_mono HO527.out (fun _ hk => ⟨hk.1.1.2,⟨hk.1.2,hk.2⟩⟩)⟩,⟨by (with_reducible repeat (first | apply Kd.R_alloc | apply Kd.R_drewN | apply Kd.R_drew)); exact Kd.R_mono HO537.out (fun _ hk => ⟨hk.1.1.2,⟨hk.1.2,hk.2⟩⟩)⟩,⟨kA BK510.out⟩,⟨kA BK524.out⟩,⟨kA BK531.out⟩,⟨kA BK540.out⟩,⟨bA⟩⟩
              ·rw [if_neg c57] at H
               have c57b0 : (t539 == 0) = false := beq_eq_false_iff_ne.mpr c57
               have c57b1 : (t539 != 0) = true := bne_iff_ne.mpr c57
               have H' := Aside0.mk H
               clear H
               have hnb108 := NB524_510.out
               have hnc108 := NB510_524.out
               have hnb109 := NB524_531.out
               have hnc109 := NB531_524.out
               have hnb110 := NB524_540.out
               have hnc110 := NB540_524.out
               obtain ⟨hcz111_0,hcz111_1⟩ := cl2 BK524.out
               obtain ⟨hfz111_0,hfz111_1⟩ := fz2 BK524.out
               have hnb112 := NB531_510.out
               have hnc112 := NB510_531.out
               have hnb113 := NB531_540.out
               have hnc113 := NB540_531.out
               obtain ⟨hcz114_0,hcz114_1⟩ := cl2 BK531.out
               obtain ⟨hfz114_0,hfz114_1⟩ := fz2 BK531.out
               go_wp2_with (first | (go_at_call 16; (with_reducible refine (laws_sameStore.calls kj2 _ _ t518 t521 _ _ t525 t528 true _ ?side1 ?side2 ?side3 ?side4 A52.out).mono ?_); (case side1 => repeat (first | exact (Kd.R_reads' HO520.out).2.2 | (with_reducible refine Kd.C_alloc ?_ _) | (with_reducible refine Kd.C_drewN ?_ _) | (with_reducible refine Kd.C_drew ?_))); (case side2 => exact (Kd.R_reads' HO520.out).2.1); (case side3 => repeat (first | exact (Kd.R_reads' HO527.out).2.2 | (with_reducible refine Kd.C_alloc ?_ _) | (with_reducible refine Kd.C_drewN ?_ _) | (with_reducible refine Kd.C_drew ?_))); (case side4 => exact (Kd.R_reads' HO527.out).2.1); rintro e w115 ⟨rfl,hb⟩; replace HO508 := Aside0.mk (Kd.R_below (rA HO508.out) hb); replace HO513 := Aside0.mk (Kd.R_below (rA HO513.out) hb); replace HO520 := Aside0.mk (Kd.R_below (rA HO520.out) hb); replace HO527 := Aside0.mk (Kd.R_below (rA HO527.out) hb); replace HO537 := Aside0.mk (Kd.R_below (rA HO537.out) hb); replace BK510 := bbA BK510 hb; replace BK524 := bbA BK524 hb; replace BK531 := bbA BK531 hb; replace BK540 := bbA BK540 hb; replace HB := bsA hb; clear hb))
               go_meet
               case rel => exact ⟨_,(true),(by first | rfl | (simp; done) | (simp [*]; done)),H',⟨by have := HJ2.out; first | omega | exact Nat.le_refl _⟩,⟨by (with_reducible repeat (first | apply Kd.R_alloc | apply Kd.R_drewN | apply Kd.R_drew)); exact Kd.R_mono HO508.out (fun _ hk => ⟨hk.1.1.2,⟨hk.1.2,hk.2⟩⟩)⟩,⟨by (with_reducible repeat (first | apply Kd.R_alloc | apply Kd.R_drewN | apply Kd.R_drew)); exact Kd.R_mono HO520.out (fun _ hk => ⟨hk.1.1.2,⟨hk.1.2,hk.2⟩⟩)⟩,⟨by (with_reducible repeat (first | apply Kd.R_alloc | apply Kd.R_drewN | apply Kd.R_drew)); exact Kd.R_mono HO527.out (fun _ hk => ⟨hk.1.1.2,⟨hk.1.2,hk.2⟩⟩)⟩,⟨by (with_reducible repeat (first | apply Kd.R_alloc | apply Kd.R_drewN | apply Kd.R_drew)); exact Kd.R_mono HO537.out (fun _ hk => ⟨hk.1.1.2,⟨hk.1.2,hk.2⟩⟩)⟩,⟨kA BK510.out⟩,⟨kA BK524.out⟩,⟨kA BK531.out⟩,⟨kA BK540.out⟩,⟨bA⟩⟩
             ·rw [if_neg c56] at H
              have c56b0 : (t533 == t522) = false := beq_eq_false_iff_ne.mpr c56
              have c56b1 : (t533 != t522) = true := bne_iff_ne.mpr c56
              have H' := Aside0.mk H
              clear H
              have hnb116 := NB524_510.out
              have hnc116 := NB510_524.out
              have hnb117 := NB524_531.out
              have hnc117 := NB531_524.out
              have hnb118 := NB524_540.out
              have hnc118 := NB540_524.out
              obtain ⟨hcz119_0,hcz119_1⟩ := cl2 BK524.out
              obtain ⟨hfz119_0,hfz119_1⟩ := fz2 BK524.out
              have hnb120 := NB531_510.out
              have hnc120 := NB510_531.out
              have hnb121 := NB531_540.out
              have hnc121 := NB540_531.out
              obtain ⟨hcz122_0,hcz122_1⟩ := cl2 BK531.out
              obtain ⟨hfz122_0,hfz122_1⟩ := fz2 BK531.out
              go_wp2_with (first | (go_at_call 16; (with_reducible refine (laws_sameStore.calls kj2 _ _ t518 t521 _ _ t525 t528 true _ ?side1 ?side2 ?side3 ?side4 A52.out).mono ?_); (case side1 => repeat (first | exact (Kd.R_reads' HO520.out).2.2 | (with_reducible refine Kd.C_alloc ?_ _) | (with_reducible refine Kd.C_drewN ?_ _) | (with_reducible refine Kd.C_drew ?_))); (case side2 => exact (Kd.R_reads' HO520.out).2.1); (case side3 => repeat (first | exact (Kd.R_reads' HO527.out).2.2 | (with_reducible refine Kd.C_alloc ?_ _) | (with_reducible refine Kd.C_drewN ?_ _) | (with_reducible refine Kd.C_drew ?_))); (case side4 => exact (Kd.R_reads' HO527.out).2.1); rintro e w123 ⟨rfl,hb⟩; replace HO508 := Aside0.mk (Kd.R_below (rA HO508.out) hb); replace HO513 := Aside0.mk (Kd.R_below (rA HO513.out) hb); replace HO520 := Aside0.mk (Kd.R_below (rA HO520.out) hb); replace HO527 := Aside0.mk (Kd.R_below (rA HO527.out) hb); replace HO537 := Aside0.mk (Kd.R_below (rA HO537.out) hb); replace BK510 := bbA BK510 hb; replace BK524 := bbA BK524 hb; replace BK531 := bbA BK531 hb; replace BK540 := bbA BK540 hb; replace HB := bsA hb; clear hb))
              go_meet
              case rel => exact ⟨_,(true),(by first | rfl | (simp; done) | (simp [*]; done)),H',⟨by have := HJ2.out; first | omega | exact Nat.le_refl _⟩,⟨by (with_reducible repeat (first | apply Kd.R_alloc | apply Kd.R_drewN | apply Kd.R_drew)); exact Kd.R_mono HO508.out (fun _ hk => ⟨hk.1.1.2,⟨hk.1.2,hk.2⟩⟩)⟩,⟨by (with_reducible repeat (first | apply Kd.R_alloc | apply Kd.R_drewN | apply Kd.R_drew)); exact Kd.R_mono HO520.out (fun _ hk => ⟨hk.1.1.2,⟨hk.1.2,hk.2⟩⟩)⟩,⟨by (with_reducible repeat (first | apply Kd.R_alloc | apply Kd.R_drewN | apply Kd.R_drew)); exact Kd.R_mono HO527.out (fun _ hk => ⟨hk.1.1.2,⟨hk.1.2,hk.2⟩⟩)⟩,⟨by (with_reducible repeat (first | apply Kd.R_alloc | apply Kd.R_drewN | apply Kd.R_drew)); exact Kd.R_mono HO537.out (fun _ hk => ⟨hk.1.1.2,⟨hk.1.2,hk.2⟩⟩)⟩,⟨kA BK510.out⟩,⟨kA BK524.out⟩,⟨kA BK531.out⟩,⟨kA BK540.out⟩,⟨bA⟩⟩
            ·rw [if_neg c55] at H
             have c55b0 : (t532.toList == t517.toList) = false := beq_eq_false_iff_ne.mpr c55
             have c55b1 : (t532.toList != t517.toList) = true := bne_iff_ne.mpr c55
             have H' := Aside0.mk H
             clear H
             have hnb124 := NB524_510.out
             have hnc124 := NB510_524.out
             have hnb125 := NB524_531.out
             have hnc125 := NB531_524.out
             have hnb126 := NB524_540.out
             have hnc126 := NB540_524.out
             obtain ⟨hcz127_0,hcz127_1⟩ := cl2 BK524.out
             obtain ⟨hfz127_0,hfz127_1⟩ := fz2 BK524.out
             have hnb128 := NB531_510.out
             have hnc128 := NB510_531.out
             have hnb129 := NB531_540.out
             have hnc129 := NB540_531.out
             obtain ⟨hcz130_0,hcz130_1⟩ := cl2 BK531.out
             obtain ⟨hfz130_0,hfz130_1⟩ := fz2 BK531.out
             go_wp2_with (first | (go_at_call 16; (with_reducible refine (laws_sameStore.calls kj2 _ _ t518 t521 _ _ t525 t528 true _ ?side1 ?side2 ?side3 ?side4 A52.out).mono ?_); (case side1 => repeat (first | exact (Kd.R_reads' HO520.out).2.2 | (with_reducible refine Kd.C_alloc ?_ _) | (with_reducible refine Kd.C_drewN ?_ _) | (with_reducible refine Kd.C_drew ?_))); (case side2 => exact (Kd.R_reads' HO520.out).2.1); (case side3 => repeat (first | exact (Kd.R_reads' HO527.out).2.2 | (with_reducible refine Kd.C_alloc ?_ _) | (with_reducible refine Kd.C_drewN ?_ _) | (with_reducible refine Kd.C_drew ?_))); (case side4 => exact (Kd.R_reads' HO527.out).2.1); rintro e w131 ⟨rfl,hb⟩; replace HO508 := Aside0.mk (Kd.R_below (rA HO508.out) hb); replace HO513 := Aside0.mk (Kd.R_below (rA HO513.out) hb); replace HO520 := Aside0.mk (Kd.R_below (rA HO520.out) hb); replace HO527 := Aside0.mk (Kd.R_below (rA HO527.out) hb); replace HO537 := Aside0.mk (Kd.R_below (rA HO537.out) hb); replace BK510 := bbA BK510 hb; replace BK524 := bbA BK524 hb; replace BK531 := bbA BK531 hb; replace BK540 := bbA BK540 hb; replace HB := bsA hb; clear hb))
             go_meet
             case rel => exact ⟨_,(true),(by first | rfl | (simp; done) | (simp [*]; done)),H',⟨by have := HJ2.out; first | omega | exact Nat.le_refl _⟩,⟨by (with_reducible repeat (first | apply Kd.R_alloc | apply Kd.R_drewN | apply Kd.R_drew)); exact Kd.R_mono HO508.out (fun _ hk => ⟨hk.1.1.2,⟨hk.1.2,hk.2⟩⟩)⟩,⟨by (with_reducible repeat (first | apply Kd.R_alloc | apply Kd.R_drewN | apply Kd.R_drew)); exact Kd.R_mono HO520.out (fun _ hk => ⟨hk.1.1.2,⟨hk.1.2,hk.2⟩⟩)⟩,⟨by (with_reducible repeat (first | apply Kd.R_alloc | apply Kd.R_drewN | apply Kd.R_drew)); exact Kd.R_mono HO527.out (fun _ hk => ⟨hk.1.1.2,⟨hk.1.2,hk.2⟩⟩)⟩,⟨by (with_reducible repeat (first | apply Kd.R_alloc | apply Kd.R_drewN | apply Kd.R_drew)); exact Kd.R_mono HO537.out (fun _ hk => ⟨hk.1.1.2,⟨hk.1.2,hk.2⟩⟩)⟩,⟨kA BK510.out⟩,⟨kA BK524.out⟩,⟨kA BK531.out⟩,⟨kA BK540.out⟩,⟨bA⟩⟩
           ·rw [if_neg c54] at H
            have c54b0 : (t534 == 0) = false := beq_eq_false_iff_ne.mpr c54
            have c54b1 : (t534 != 0) = true := bne_iff_ne.mpr c54
            have H' := Aside0.mk H
            clear H
            have hnb132 := NB524_510.out
            have hnc132 := NB510_524.out
            have hnb133 := NB524_531.out
            have hnc133 := NB531_524.out
            have hnb134 := NB524_540.out
            have hnc134 := NB540_524.out
            obtain ⟨hcz135_0,hcz135_1⟩ := cl2 BK524.out
            obtain ⟨hfz135_0,hfz135_1⟩ := fz2 BK524.out
            have hnb136 := NB531_510.out
            have hnc136 := NB510_531.out
            have hnb137 := NB531_540.out
            have hnc137 := NB540_531.out
            obtain ⟨hcz138_0,hcz138_1⟩ := cl2 BK531.out
            obtain ⟨hfz138_0,hfz138_1⟩ := fz2 BK531.out
            go_wp2_with (first | (go_at_call 16; (with_reducible refine (laws_sameStore.calls kj2 _ _ t518 t521 _ _ t525 t528 true _ ?side1 ?side2 ?side3 ?side4 A52.out).mono ?_); (case side1 => repeat (first | exact (Kd.R_reads' HO520.out).2.2 | (with_reducible refine Kd.C_alloc ?_ _) | (with_reducible refine Kd.C_drewN ?_ _) | (with_reducible refine Kd.C_drew ?_))); (case side2 => exact (Kd.R_reads' HO520.out).2.1); (case side3 => repeat (first | exact (Kd.R_reads' HO527.out).2.2 | (with_reducible refine Kd.C_alloc ?_ _) | (with_reducible refine Kd.C_drewN ?_ _) | (with_reducible refine Kd.C_drew ?_))); (case side4 => exact (Kd.R_reads' HO527.out).2.1); rintro e w139 ⟨rfl,hb⟩; replace HO508 := Aside0.mk (Kd.R_below (rA HO508.out) hb); replace HO513 := Aside0.mk (Kd.R_below (rA HO513.out) hb); replace HO520 := Aside0.mk (Kd.R_below (rA HO520.out) hb); replace HO527 := Aside0.mk (Kd.R_below (rA HO527.out) hb); replace HO537 := Aside0.mk (Kd.R_below (rA HO537.out) hb); replace BK510 := bbA BK510 hb; replace BK524 := bbA BK524 hb; replace BK531 := bbA BK531 hb; replace BK540 := bbA BK540 hb; replace HB := bsA hb; clear hb))
            go_meet
            case rel => exact ⟨_,(true),(by first | rfl | (simp; done) | (simp [*]; done)),H',⟨by have := HJ2.out; first | omega | exact Nat.le_refl _⟩,⟨by (with_reducible repeat (first | apply Kd.R_alloc | apply Kd.R_drewN | apply Kd.R_drew)); exact Kd.R_mono HO508.out (fun _ hk => ⟨hk.1.1.2,⟨hk.1.2,hk.2⟩⟩)⟩,⟨by (with_reducible repeat (first | apply Kd.R_alloc | apply Kd.R_drewN | apply Kd.R_drew)); exact Kd.R_mono HO520.out (fun _ hk => ⟨hk.1.1.2,⟨hk.1.2,hk.2⟩⟩)⟩,⟨by (with_reducible repeat (first | apply Kd.R_alloc | apply Kd.R_drewN | apply Kd.R_drew)); exact Kd.R_mono HO527.out (fun _ hk => ⟨hk.1.1.2,⟨hk.1.2,hk.2⟩⟩)⟩,⟨by (with_reducible repeat (first | apply Kd.R_alloc | apply Kd.R_drewN | apply Kd.R_drew)); exact Kd.R_mono HO537.out (fun _ hk => ⟨hk.1.1.2,⟨hk.1.2,hk.2⟩⟩)⟩,⟨kA BK510.out⟩,⟨kA BK524.out⟩,⟨kA BK531.out⟩,⟨kA BK540.out⟩,⟨bA⟩⟩
          ·replace c53 := Bool.eq_false_iff.mpr c53
           subst c53
           rw [if_neg (show ¬ (false = true) by decide)] at H
           have H' := Aside0.mk H
           clear H
           have hnb140 := NB524_510.out
           have hnc140 := NB510_524.out
           have hnb141 := NB524_531.out
           have hnc141 := NB531_524.out
           have hnb142 := NB524_540.out
           have hnc142 := NB540_524.out
           obtain ⟨hcz143_0,hcz143_1⟩ := cl2 BK524.out
           obtain ⟨hfz143_0,hfz143_1⟩ := fz2 BK524.out
           have hnb144 := NB531_510.out
           have hnc144 := NB510_531.out
           have hnb145 := NB531_540.out
           have hnc145 := NB540_531.out
           obtain ⟨hcz146_0,hcz146_1⟩ := cl2 BK531.out
           obtain ⟨hfz146_0,hfz146_1⟩ := fz2 BK531.out
           go_wp2_with (first | (go_at_call 16; (with_reducible refine (laws_sameStore.calls kj2 _ _ t518 t521 _ _ t525 t528 false _ ?side1 ?side2 ?side3 ?side4 A52.out).mono ?_); (case side1 => repeat (first | exact (Kd.R_reads' HO520.out).2.2 | (with_reducible refine Kd.C_alloc ?_ _) | (with_reducible refine Kd.C_drewN ?_ _) | (with_reducible refine Kd.C_drew ?_))); (case side2 => exact (Kd.R_reads' HO520.out).2.1); (case side3 => repeat (first | exact (Kd.R_reads' HO527.out).2.2 | (with_reducible refine Kd.C_alloc ?_ _) | (with_reducible refine Kd.C_drewN ?_ _) | (with_reducible refine Kd.C_drew ?_))); (case side4 => exact (Kd.R_reads' HO527.out).2.1); rintro e w147 ⟨rfl,hb⟩; replace HO508 := Aside0.mk (Kd.R_below (rA HO508.out) hb); replace HO513 := Aside0.mk (Kd.R_below (rA HO513.out) hb); replace HO520 := Aside0.mk (Kd.R_below (rA HO520.out) hb); replace HO527 := Aside0.mk (Kd.R_below (rA HO527.out) hb); replace HO537 := Aside0.mk (Kd.R_below (rA HO537.out) hb); replace BK510 := bbA BK510 hb; replace BK524 := bbA BK524 hb; replace BK531 := bbA BK531 hb; replace BK540 := bbA BK540 hb; replace HB := bsA hb; clear hb))
           go_meet
           case rel => exact ⟨_,(true),(by first | rfl | (simp; done) | (simp [*]; done)),H',⟨by have := HJ2.out; first | omega | exact Nat.le_refl _⟩,⟨by (with_reducible repeat (first | apply Kd.R_alloc | apply Kd.R_drewN | apply Kd.R_drew)); exact Kd.R_mono HO508.out (fun _ hk => ⟨hk.1.1.2,⟨hk.1.2,hk.2⟩⟩)⟩,⟨by (with_reducible repeat (first | apply Kd.R_alloc | apply Kd.R_drewN | apply Kd.R_drew)); exact Kd.R_mono HO520.out (fun _ hk => ⟨hk.1.1.2,⟨hk.1.2,hk.2⟩⟩)⟩,⟨by (with_reducible repeat (first | apply Kd.R_alloc | apply Kd.R_drewN | apply Kd.R_drew)); exact Kd.R_mono HO527.out (fun _ hk => ⟨hk.1.1.2,⟨hk.1.2,hk.2⟩⟩)⟩,⟨by (with_reducible repeat (first | apply Kd.R_alloc | apply Kd.R_drewN | apply Kd.R_drew)); exact Kd.R_mono HO537.out (fun _ hk => ⟨hk.1.1.2,⟨hk.1.2,hk.2⟩⟩)⟩,⟨kA BK510.out⟩,⟨kA BK524.out⟩,⟨kA BK531.out⟩,⟨kA BK540.out⟩,⟨bA⟩⟩
         ·rw [if_neg c51] at H
          have c51b0 : (t523 == 0) = false := beq_eq_false_iff_ne.mpr c51
          have c51b1 : (t523 != 0) = true := bne_iff_ne.mpr c51
          (first | rw [c51b0] | (simp only [i64_w,i32_w]; rw [c51b0]) | skip)
          have H' := Aside0.mk H
          clear H
          go_wp2
          go_meet
          case rel => exact ⟨_,(true),(by first | rfl | (simp; done) | (simp [*]; done)),H',⟨by have := HJ2.out; first | omega | exact Nat.le_refl _⟩,⟨by (with_reducible repeat (first | apply Kd.R_alloc | apply Kd.R_drewN | apply Kd.R_drew)); exact Kd.R_mono HO508.out (fun _ hk => ⟨hk.1.1.2,⟨hk.1.2,hk.2⟩⟩)⟩,⟨by (with_reducible repeat (first | apply Kd.R_alloc | apply Kd.R_drewN | apply Kd.R_drew)); exact Kd.R_mono HO520.out (fun _ hk => ⟨hk.1.1.2,⟨hk.1.2,hk.2⟩⟩)⟩,⟨by (with_reducible repeat (first | apply Kd.R_alloc | apply Kd.R_drewN | apply Kd.R_drew)); exact Kd.R_mono HO527.out (fun _ hk => ⟨hk.1.1.2,⟨hk.1.2,hk.2⟩⟩)⟩,⟨by (with_reducible repeat (first | apply Kd.R_alloc | apply Kd.R_drewN | apply Kd.R_drew)); exact Kd.R_mono HO537.out (fun _ hk => ⟨hk.1.1.2,⟨hk.1.2,hk.2⟩⟩)⟩,⟨kA BK510.out⟩,⟨kA BK524.out⟩,⟨kA BK531.out⟩,⟨kA BK540.out⟩,⟨bA⟩⟩
        case rest =>
         clear HC18
         try clear c1
         try clear p2
         try clear c3
         try clear c4
         try clear c4b0
         try clear c4b1
         try clear c5
         try clear p5
         try clear q5
         try clear hx5
         try clear c6
         try clear c7
         try clear c8
         try clear c8b0
         try clear c9
         try clear c9b0
         try clear c10
         try clear c10b0
         try clear c10b1
         try clear c10b2
         try clear c11
         try clear c12
         try clear c13
         try clear c14
         try clear c15
         try clear c31
         try clear c37
         try clear c38
         try clear c46
         try clear c47
         try clear c48
         try clear c51
         try clear c51b0
         try clear c51b1
         try clear p51
         try clear q51
         try clear hx51
         try clear c53
         try clear c54
         try clear c54b0
         try clear c54b1
         try clear c55
         try clear c55b0
         try clear c55b1
         try clear c56
         try clear c56b0
         try clear c56b1
         try clear c57
         try clear c57b0
         try clear c57b1
         try clear c58
         try clear c58b0
         try clear c58b1
         try clear c59
         try clear c59b0
         try clear c59b1
         try clear c59b2
         try clear c61
         try clear c63
         try clear c64
         try clear c65
         try clear c67
         try clear c68
         try clear c71
         try clear c76
         try clear c77
         try clear c78
         try clear c80
         try clear c81
         try clear c84
         try clear c89
         try clear c90
         try clear c91
         try clear c93
         try clear c94
         try clear c97
         try clear c100
         try clear c101
         try clear c102
         try clear c104
         try clear c105
         try clear c108
         try clear c109
         try clear c110
         try clear c112
         try clear c113
         try clear c116
         try clear c117
         try clear c118
         try clear c120
         try clear c121
         try clear c124
         try clear c125
         try clear c126
         try clear c128
         try clear c129
         try clear c132
         try clear c133
         try clear c134
         try clear c136
         try clear c137
         try clear c140
         try clear c141
         try clear c142
         try clear c144
         try clear c145
         try clear hcz103_0 hcz103_1
         try clear hcz106_0 hcz106_1
         try clear hcz111_0 hcz111_1
         try clear hcz114_0 hcz114_1
         try clear hcz119_0 hcz119_1
         try clear hcz122_0 hcz122_1
         try clear hcz127_0 hcz127_1
         try clear hcz130_0 hcz130_1
         try clear hcz135_0 hcz135_1
         try clear hcz138_0 hcz138_1
         try clear hcz143_0 hcz143_1
         try clear hcz146_0 hcz146_1
         try clear hcz22_0 hcz22_1
         try clear hcz27_0 hcz27_1
         try clear hcz32_0 hcz32_1
         try clear hcz33_0 hcz33_1
         try clear hcz39_0 hcz39_1
         try clear hcz40_0 hcz40_1
         try clear hcz42_0 hcz42_1
         try clear hcz49_0 hcz49_1
         try clear hcz66_0 hcz66_1
         try clear hcz69_0 hcz69_1
         try clear hcz72_0 hcz72_1
         try clear hcz73_0 hcz73_1
         try clear hcz74_0 hcz74_1
         try clear hcz79_0 hcz79_1
         try clear hcz82_0 hcz82_1
         try clear hcz85_0 hcz85_1
         try clear hcz86_0 hcz86_1
         try clear hcz87_0 hcz87_1
         try clear hcz92_0 hcz92_1
         try clear hcz95_0 hcz95_1
         try clear hcz98_0 hcz98_1
         try clear hcz99_0 hcz99_1
         try clear hfz103_0 hfz103_1
         try clear hfz106_0 hfz106_1
         try clear hfz111_0 hfz111_1
         try clear hfz114_0 hfz114_1
         try clear hfz119_0 hfz119_1
         try clear hfz122_0 hfz122_1
         try clear hfz127_0 hfz127_1
         try clear hfz130_0 hfz130_1
         try clear hfz135_0 hfz135_1
         try clear hfz138_0 hfz138_1
         try clear hfz143_0 hfz143_1
         try clear hfz146_0 hfz146_1
         try clear hfz22_0 hfz22_1
         try clear hfz27_0 hfz27_1
         try clear hfz32_0 hfz32_1
         try clear hfz33_0 hfz33_1
         try clear hfz39_0 hfz39_1
         try clear hfz40_0 hfz40_1
         try clear hfz42_0 hfz42_1
         try clear hfz49_0 hfz49_1
         try clear hfz66_0 hfz66_1
         try clear hfz69_0 hfz69_1
         try clear hfz72_0 hfz72_1
         try clear hfz73_0 hfz73_1
         try clear hfz74_0 hfz74_1
         try clear hfz79_0 hfz79_1
         try clear hfz82_0 hfz82_1
         try clear hfz85_0 hfz85_1
         try clear hfz86_0 hfz86_1
         try clear hfz87_0 hfz87_1
         try clear hfz92_0 hfz92_1
         try clear hfz95_0 hfz95_1
         try clear hfz98_0 hfz98_1
         try clear hfz99_0 hfz99_1
         try clear hx515_0
         try clear p2
         try clear p515
         try clear q515
         rename_i zp4_1 zp4_2 zp4_3 zp4_4 zp4_5 zp4_6 zp4_7 zp4_8 zp4_9 zp4_10 zp4_11 zp4_12 zp4_13 zp4_14 zp4_15 zp4_16 zp4_17 zp4_18 zp4_19 zp4_20 zp4_21 zp4_22 zp4_23 zp4_24 zp4_25 zp4_26 zp4_27 zp4_28 zp4_29 zp4_30 zp4_31 zp4_32 zp4_33 zp4_34 zp4_35 zp4_36 zp4_37 zp4_38 zp4_39 zp4_40 zp4_41 zp4_42 zp4_43 zp4_44 zp4_45 zp4_46 zp4_47 zp4_48 zp4_49 zp4_50 zp4_51 zp4_52 zp4_53 zp4_54 zp4_55 zp4_56 zp4_57 zp4_58 zp4_59 zp4_60 zp4_61 zp4_62 zp4_63 zp4_64 zp4_65 zp4_66 zp4_67 zp4_68 zp4_69 zp4_70 zp4_71 zp4_72 zp4_73 zp4_74 zp4_75 zp4_76 zp4_77 zp4_78 zp4_79 zp4_80 zp4_81 zp4_82 zp4_83 zp4_84 zp4_85 zp4_86 zp4_87 zp4_88 zp4_89 zp4_90 zp4_91 zp4_92 zp4_93 zp4_94 zp4_95 zp4_96 zp4_97 zp4_98 zp4_99 zp4_100 zp4_101 zp4_102 zp4_103 zp4_104 zp4_105 zp4_106 zp4_107 zp4_108 zp4_109 zp4_110 zp4_111 zp4_112 zp4_113 zp4_114 zp4_115 zp4_116 zp4_117 zp4_118 zp4_119 zp4_120 zp4_121 zp4_122 zp4_123 zp4_124 zp4_125 zp4_126 zp4_127 zp4_128 zp4_129 zp4_130 zp4_131 zp4_132 zp4_133 zp4_134 zp4_135 zp4_136 zp4_137 zp4_138 zp4_139 zp4_140 zp4_141 zp4_142 zp4_143 zp4_144 zp4_145 zp4_146 zp4_147 zp4_148 zp4_149 zp4_150 zp4_151 zp4_152 zp4_153 zp4_154 zp4_155 zp4_156 zp4_157 zp4_158 zp4_159 zp4_160 zp4_161 zp4_162 zp4_163 zp4_164 zp4_165 zp4_166 zp4_167 zp4_168 zp4_169 zp4_170; revert k A0 c0 l0 A1 c1 l1 r w hu25 hu32 HR0 HC0 HR1 HC1 zq3_1 zq3_2 zp4_1 zp4_2 zp4_3 zp4_4 zp4_5 zp4_6 zp4_7 zp4_8 zp4_9 zp4_10 zp4_11 zp4_12 zp4_13 zp4_14 zp4_15 zp4_16 zp4_17 zp4_18 zp4_19 zp4_20 zp4_21 zp4_22 zp4_23 zp4_24 zp4_25 zp4_26 zp4_27 zp4_28 zp4_29 zp4_30 zp4_31 zp4_32 zp4_33 zp4_34 zp4_35 zp4_36 zp4_37 zp4_38 zp4_39 zp4_40 zp4_41 zp4_42 zp4_43 zp4_44 zp4_45 zp4_46 zp4_47 zp4_48 zp4_49 zp4_50 zp4_51 zp4_52 zp4_53 zp4_54 zp4_55 zp4_56 zp4_57 zp4_58 zp4_59 zp4_60 zp4_61 zp4_62 zp4_63 zp4_64 zp4_65 zp4_66 zp4_67 zp4_68 zp4_69 zp4_70 zp4_71 zp4_72 zp4_73 zp4_74 zp4_75 zp4_76 zp4_77 zp4_78 zp4_79 zp4_80 zp4_81 zp4_82 zp4_83 zp4_84 zp4_85 zp4_86 zp4_87 zp4_88 zp4_89 zp4_90 zp4_91 zp4_92 zp4_93 zp4_94 zp4_95 zp4_96 zp4_97 zp4_98 zp4_99 zp4_100 zp4_101 zp4_102 zp4_103 zp4_104 zp4_105 zp4_106 zp4_107 zp4_108 zp4_109 zp4_110 zp4_111 zp4_112 zp4_113 zp4_114 zp4_115 zp4_116 zp4_117 zp4_118 zp4_119 zp4_120 zp4_121 zp4_122 zp4_123 zp4_124 zp4_125 zp4_126 zp4_127 zp4_128 zp4_129 zp4_130 zp4_131 zp4_132 zp4_133 zp4_134 zp4_135 zp4_136 zp4_137 zp4_138 zp4_139 zp4_140 zp4_141 zp4_142 zp4_143 zp4_144 zp4_145 zp4_146 zp4_147 zp4_148 zp4_149 zp4_150 zp4_151 zp4_152 zp4_153 zp4_154 zp4_155 zp4_156 zp4_157 zp4_158 zp4_159 zp4_160 zp4_161 zp4_162 zp4_163 zp4_164 zp4_165 zp4_166 zp4_167 zp4_168 zp4_169 zp4_170 kj2 HJ2 t506 t509 A6 y511 Ny511 t514 A7 t516 A11 t517 A12 t518 t521 t522 t523 A13 t525 t528 t529 t530 A14 t532 t533 t534 A15 t535 t538 t539 A16 t541 t542 t543 A17 w19 gb510 w20 GW510 GE510 Ao21 co21 zq3_3 zq3_4 zq3_5 co25 ad515 nd w23 w26 w28 gb524 w29 GW524 GE524 NB510_524 NB524_510 Ao30 co30 hnb31 hnc31 w34 gb531 w35 GW531 GE531 NB510_531 NB531_510 NB524_531 NB531_524 Ao36 co36 hnb37 hnc37 hnb38 hnc38 w41 w43 gb540 w44 GW540 GE540 NB510_540 NB540_510 NB524_540 NB540_524 NB531_540 NB540_531 Ao45 co45 hnb46 hnc46 hnb47 hnc47 hnb48 hnc48 w50 HO508 HO513 HO520 HO527 HO537 BK510 BK524 BK531 BK540 HB zq3_6 zq3_7 zq3_8 zq3_9 wc u26 u27 u28 u29 u30 u31 u32 u33 u34 u35 u36 u37 u38 u39 u40 u41 u42 u43 u44 u45 u46 u47 u48 u49 u50 u51 u52 u53 u54 u55 u56 u57 u58 u59 u60 u61 u62 u63 u64 u65 u66 u67 u68 u69 u70 u71 u72 u73 u74 u75 u76 u77 u78 u79 u80 u81 u82 u83 u84 u85 u86 u87 u88 u89 u90 u91 u92 u93 u94 u95 u96 u97 u98 u99 u100 u101 u102 u103 u104 u105 u106 u107 u108 u109 u110 u111 u112 u113 u114 u115 u116 u117 u118 u119 u120 u121 u122 u123 u124 u125 u126 u127 u128 u129 u130 u131 u132 u133 u134 u135 u136 u137 u138 u139 u140 u141 u142 u143 u144 u145 u146 u147 u148 u149 u150 u151 u152 u153 u154 u155 u156 u157 u158 u159 u160 u161 u162 u163 u164 u165 u166 u167 u168 u169 u170 u171 u172 u173 u174 u175 u176 u177 u178 u179 u180 u181 u182 u183 u184 u185 u186 u187 u188 u189 u190 u191 u192 u193 u194 u195 hcut; exact hm_.out
set_option maxHeartbeats 8000000 in
set_option maxRecDepth 100000 in
theorem FnStore_cut5 : FnStore_cut4.1 := by
        intro k A0 c0 l0 A1 c1 l1 r w hu25 hu32 HR0 HC0 HR1 HC1 zq4_1 zq4_2 zq4_3 zq4_4 zq4_5 zq4_6 zq4_7 zq4_8 zq4_9 zq4_10 zq4_11 zq4_12 zq4_13 zq4_14 zq4_15 zq4_16 zq4_17 zq4_18 zq4_19 zq4_20 zq4_21 zq4_22 zq4_23 zq4_24 zq4_25 zq4_26 zq4_27 zq4_28 zq4_29 zq4_30 zq4_31 zq4_32 zq4_33 zq4_34 zq4_35 zq4_36 zq4_37 zq4_38 zq4_39 zq4_40 zq4_41 zq4_42 zq4_43 zq4_44 zq4_45 zq4_46 zq4_47 zq4_48 zq4_49 zq4_50 zq4_51 zq4_52 zq4_53 zq4_54 zq4_55 zq4_56 zq4_57 zq4_58 zq4_59 zq4_60 zq4_61 zq4_62 zq4_63 zq4_64 zq4_65 zq4_66 zq4_67 zq4_68 zq4_69 zq4_70 zq4_71 zq4_72 zq4_73 zq4_74 zq4_75 zq4_76 zq4_77 zq4_78 zq4_79 zq4_80 zq4_81 zq4_82 zq4_83 zq4_84 zq4_85 zq4_86 zq4_87 zq4_88 zq4_89 zq4_90 zq4_91 zq4_92 zq4_93 zq4_94 zq4_95 zq4_96 zq4_97 zq4_98 zq4_99 zq4_100 zq4_101 zq4_102 zq4_103 zq4_104 zq4_105 zq4_106 zq4_107 zq4_108 zq4_109 zq4_110 zq4_111 zq4_112 zq4_113 zq4_114 zq4_115 zq4_116 zq4_117 zq4_118 zq4_119 zq4_120 zq4_121 zq4_122 zq4_123 zq4_124 zq4_125 zq4_126 zq4_127 zq4_128 zq4_129 zq4_130 zq4_131 zq4_132 zq4_133 zq4_134 zq4_135 zq4_136 zq4_137 zq4_138 zq4_139 zq4_140 zq4_141 zq4_142 zq4_143 zq4_144 zq4_145 zq4_146 zq4_147 zq4_148 zq4_149 zq4_150 zq4_151 zq4_152 zq4_153 zq4_154 zq4_155 zq4_156 zq4_157 zq4_158 zq4_159 zq4_160 zq4_161 zq4_162 zq4_163 zq4_164 zq4_165 zq4_166 zq4_167 zq4_168 zq4_169 zq4_170 zq4_171 zq4_172 kj2 HJ2 t506 t509 A6 y511 Ny511 t514 A7 t516 A11 t517 A12 t518 t521 t522 t523 A13 t525 t528 t529 t530 A14 t532 t533 t534 A15 t535 t538 t539 A16 t541 t542 t543 A17 w19 gb510 w20 GW510 GE510 Ao21 co21 zq4_173 zq4_174 zq4_175 co25 ad515 nd w23 w26 w28 gb524 w29 GW524 GE524 NB510_524 NB524_510 Ao30 co30 hnb31 hnc31 w34 gb531 w35 GW531 GE531 NB510_531 NB531_510 NB524_531 NB531_524 Ao36 co36 hnb37 hnc37 hnb38 hnc38 w41 w43 gb540 w44 GW540 GE540 NB510_540 NB540_510 NB524_540 NB540_524 NB531_540 NB540_531 Ao45 co45 hnb46 hnc46 hnb47 hnc47 hnb48 hnc48 w50 HO508 HO513 HO520 HO527 HO537 BK510 BK524 BK531 BK540 HB zq4_176 zq4_177 zq4_178 zq4_179 wc u26 u27 u28 u29 u30 u31 u32 u33 u34 u35 u36 u37 u38 u39 u40 u41 u42 u43 u44 u45 u46 u47 u48 u49 u50 u51 u52 u53 u54 u55 u56 u57 u58 u59 u60 u61 u62 u63 u64 u65 u66 u67 u68 u69 u70 u71 u72 u73 u74 u75 u76 u77 u78 u79 u80 u81 u82 u83 u84 u85 u86 u87 u88 u89 u90 u91 u92 u93 u94 u95 u96 u97 u98 u99 u100 u101 u102 u103 u104 u105 u106 u107 u108 u109 u110 u111 u112 u113 u114 u115 u116 u117 u118 u119 u120 u121 u122 u123 u124 u125 u126 u127 u128 u129 u130 u131 u132 u133 u134 u135 u136 u137 u138 u139 u140 u141 u142 u143 u144 u145 u146 u147 u148 u149 u150 u151 u152 u153 u154 u155 u156 u157 u158 u159 u160 u161 u162 u163 u164 u165 u166 u167 u168 u169 u170 u171 u172 u173 u174 u175 u176 u177 u178 u179 u180 u181 u182 u183 u184 u185 u186 u187 u188 u189 u190 u191 u192 u193 u194 u195 hcut
        obtain ⟨kq,x131_17,rfl,HA,HJ17,HO_511000,HO_525000,HO_532000,HO_541000,BK510,BK524,BK531,BK540,HB⟩ := hcut
        cases kq with
        | zero => exact absurd HA.out (by simp [laws_FnStore.j1])
        | succ kj17 =>
         have H := HA.out
         clear HA
         simp only [laws_FnStore.j1] at H
         by_cases c148 : x131_17 = true
         ·subst c148
          rw [if_pos rfl] at H
          exact absurd H (by simp)
         ·replace c148 := Bool.eq_false_iff.mpr c148
          subst c148
          rw [if_neg (show ¬ (false = true) by decide)] at H
          have H' := Aside0.mk H
          clear H
          go_wp2
          go_loopg [22] kj17 (fun kq v22 w' => ∃ (x22_3 : Int),v22 = .int .i64 x22_3 ∧ Aside0 (laws_FnStore.l0 kq x22_3 t506 t509 t518 t521 t525 t528 t535 t538 = some r) ∧ Aside0 (kq ≤ kj17) ∧ Aside0 (Kd.R k32 32 w' w.heap.size (fun k_ => some k_ ≠ ((.slice Ao30 t518.length co30) : Value).ownBlock ∧ some k_ ≠ ((.slice Ao36 t525.length co36) : Value).ownBlock ∧ some k_ ≠ ((.slice Ao45 t535.length co45) : Value).ownBlock) (.slice Ao21 t506.length co21) t506) ∧ Aside0 (Kd.R k32 32 w' w.heap.size (fun k_ => some k_ ≠ ((.slice Ao21 t506.length co21) : Value).ownBlock ∧ some k_ ≠ ((.slice Ao36 t525.length co36) : Value).ownBlock ∧ some k_ ≠ ((.slice Ao45 t535.length co45) : Value).ownBlock) (.slice Ao30 t518.length co30) t518) ∧ Aside0 (Kd.R k32 32 w' w.heap.size (fun k_ => some k_ ≠ ((.slice Ao21 t506.length co21) : Value).ownBlock ∧ some k_ ≠ ((.slice Ao30 t518.length co30) : Value).ownBlock ∧ some k_ ≠ ((.slice Ao45 t535.length co45) : Value).ownBlock) (.slice Ao36 t525.length co36) t525) ∧ Aside0 (Kd.R k32 32 w' w.heap.size (fun k_ => some k_ ≠ ((.slice Ao21 t506.length co21) : Value).ownBlock ∧ some k_ ≠ ((.slice Ao30 t518.length co30) : Value).ownBlock ∧ some k_ ≠ ((.slice Ao36 t525.length co36) : Value).ownBlock) (.slice Ao45 t535.length co45) t535) ∧ Aside0 (w'.heap[gb510]? = some (.cells #[(.slice Ao21 t506.length co21),.int .i64 t509] 25 (0,0))) ∧ Aside0 (w'.heap[gb524]? = some (.cells #[(.slice Ao30 t518.length co30),.int .i64 t521] 25 (0,0))) ∧ Aside0 (w'.heap[gb531]? = some (.cells #[(.slice Ao36 t525.length co36),.int .i64 t528] 25 (0,0))) ∧ Aside0 (w'.heap[gb540]? = some (.cells #[(.slice Ao45 t535.length co45),.int .i64 t538] 25 (0,0))) ∧ Aside0 (Below w.heap.size w w'))
          case atStart => exact ⟨(0),(by first | rfl | (simp; done) | (simp [*]; done)),H',⟨Nat.le_refl _⟩,⟨rA HO_511000.out⟩,⟨rA HO_525000.out⟩,⟨rA HO_532000.out⟩,⟨rA HO_541000.out⟩,⟨kA BK510.out⟩,⟨kA BK524.out⟩,⟨kA BK531.out⟩,⟨kA BK540.out⟩,⟨bA⟩⟩
          case round =>
           clear H'
           try clear c1
           try clear p2
           try clear c3
           try clear c4
           try clear c4b0
           try clear c4b1
           try clear c5
           try clear p5
           try clear q5
           try clear hx5
           try clear c6
           try clear c7
           try clear c8
           try clear c8b0
           try clear c9
           try clear c9b0
           try clear c10
           try clear c10b0
           try clear c10b1
           try clear c10b2
           try clear c11
           try clear c12
           try clear c13
           try clear c14
           try clear c15
           try clear c31
           try clear c37
           try clear c38
           try clear c46
           try clear c47
           try clear c48
           try clear c51
           try clear c51b0
           try clear c51b1
           try clear p51
           try clear q51
           try clear hx51
           try clear c53
           try clear c54
           try clear c54b0
           try clear c54b1
           try clear c55
           try clear c55b0
           try clear c55b1
           try clear c56
           try clear c56b0
           try clear c56b1
           try clear c57
           try clear c57b0
           try clear c57b1
           try clear c58
           try clear c58b0
           try clear c58b1
           try clear c59
           try clear c59b0
           try clear c59b1
           try clear c59b2
           try clear c61
           try clear c63
           try clear c64
           try clear c65
           try clear c67
           try clear c68
           try clear c71
           try clear c76
           try clear c77
           try clear c78
           try clear c80
           try clear c81
           try clear c84
           try clear c89
           try clear c90
           try clear c91
           try clear c93
           try clear c94
           try clear c97
           try clear c100
           try clear c101
           try clear c102
           try clear c104
           try clear c105
           try clear c108
           try clear c109
           try clear c110
           try clear c112
           try clear c113
           try clear c116
           try clear c117
           try clear c118
           try clear c120
           try clear c121
           try clear c124
           try clear c125
           try clear c126
           try clear c128
           try clear c129
           try clear c132
           try clear c133
           try clear c134
           try clear c136
           try clear c137
           try clear c140
           try clear c141
           try clear c142
           try clear c144
           try clear c145
           try clear c148
           try clear hcz103_0 hcz103_1
           try clear hcz106_0 hcz106_1
           try clear hcz111_0 hcz111_1
           try clear hcz114_0 hcz114_1
           try clear hcz119_0 hcz119_1
           try clear hcz122_0 hcz122_1
           try clear hcz127_0 hcz127_1
           try clear hcz130_0 hcz130_1
           try clear hcz135_0 hcz135_1
           try clear hcz138_0 hcz138_1
           try clear hcz143_0 hcz143_1
           try clear hcz146_0 hcz146_1
           try clear hcz22_0 hcz22_1
           try clear hcz27_0 hcz27_1
           try clear hcz32_0 hcz32_1
           try clear hcz33_0 hcz33_1
           try clear hcz39_0 hcz39_1
           try clear hcz40_0 hcz40_1
           try clear hcz42_0 hcz42_1
           try clear hcz49_0 hcz49_1
           try clear hcz66_0 hcz66_1
           try clear hcz69_0 hcz69_1
           try clear hcz72_0 hcz72_1
           try clear hcz73_0 hcz73_1
           try clear hcz74_0 hcz74_1
           try clear hcz79_0 hcz79_1
           try clear hcz82_0 hcz82_1
           try clear hcz85_0 hcz85_1
           try clear hcz86_0 hcz86_1
           try clear hcz87_0 hcz87_1
           try clear hcz92_0 hcz92_1
           try clear hcz95_0 hcz95_1
           try clear hcz98_0 hcz98_1
           try clear hcz99_0 hcz99_1
           try clear hfz103_0 hfz103_1
           try clear hfz106_0 hfz106_1
           try clear hfz111_0 hfz111_1
           try clear hfz114_0 hfz114_1
           try clear hfz119_0 hfz119_1
           try clear hfz122_0 hfz122_1
           try clear hfz127_0 hfz127_1
           try clear hfz130_0 hfz130_1
           try clear hfz135_0 hfz135_1
           try clear hfz138_0 hfz138_1
           try clear hfz143_0 hfz143_1
           try clear hfz146_0 hfz146_1
           try clear hfz22_0 hfz22_1
           try clear hfz27_0 hfz27_1
           try clear hfz32_0 hfz32_1
           try clear hfz33_0 hfz33_1
           try clear hfz39_0 hfz39_1
           try clear hfz40_0 hfz40_1
           try clear hfz42_0 hfz42_1
           try clear hfz49_0 hfz49_1
           try clear hfz66_0 hfz66_1
           try clear hfz69_0 hfz69_1
           try clear hfz72_0 hfz72_1
           try clear hfz73_0 hfz73_1
           try clear hfz74_0 hfz74_1
           try clear hfz79_0 hfz79_1
           try clear hfz82_0 hfz82_1
           try clear hfz85_0 hfz85_1
           try clear hfz86_0 hfz86_1
           try clear hfz87_0 hfz87_1
           try clear hfz92_0 hfz92_1
           try clear hfz95_0 hfz95_1
           try clear hfz98_0 hfz98_1
           try clear hfz99_0 hfz99_1
           try clear hx515_0
           try clear p2
           try clear p5
           try clear p51
           try clear p515
           try clear q5
           try clear q51
           try clear q515
           obtain ⟨x22_3,rfl,HA,HK3,HO_511000,HO_525000,HO_532000,HO_541000,BK510,BK524,BK531,BK540,HB⟩ := hrel
           cases gk with
           | zero => exact absurd HA.out (by simp [laws_FnStore.l0])
           | succ k3 =>
            have H := HA.out
            clear HA
            simp only [laws_FnStore.l0] at H
            by_cases c149 : x22_3 < (t506.length : Int)
            ·rw [if_pos c149] at H
             have c149b0 : decide (x22_3 < (t506.length : Int)) = true := decide_eq_true c149
             clear c149
             by_cases c150 : 0 ≤ x22_3
             ·rw [if_pos c150] at H
              have c150b0 : decide (0 ≤ x22_3) = true := decide_eq_true c150
              clear c150
              replace H := Option.bind_eq_some_iff.mp H
              obtain ⟨⟨t548,t549,t550⟩,A1510,H⟩ := H
              try dsimp only at H
              have A151 := Aside0.mk A1510
              clear A1510
              by_cases c152 : t550 = 0
              ·rw [if_pos c152] at H
               have c152b0 : (t550 == 0) = true := beq_iff_eq.mpr c152
               have c152b1 : (t550 != 0) = false := bne_eq_false_iff_eq.mpr c152
               clear c152
               by_cases c153 : t548.toList = ((rd_T32 t506 x22_3).f2).toList
               ·rw [if_pos c153] at H
                have c153b0 : (t548.toList == ((rd_T32 t506 x22_3).f2).toList) = true := beq_iff_eq.mpr c153
                have c153b1 : (t548.toList != ((rd_T32 t506 x22_3).f2).toList) = false := bne_eq_false_iff_eq.mpr c153
                clear c153
                by_cases c154 : t549 = ((rd_T32 t506 x22_3).f1)
                ·rw [if_pos c154] at H
                 have c154b0 : (t549 == ((rd_T32 t506 x22_3).f1)) = true := beq_iff_eq.mpr c154
                 have c154b1 : (t549 != ((rd_T32 t506 x22_3).f1)) = false := bne_eq_false_iff_eq.mpr c154
                 clear c154
                 by_cases c155 : x22_3 < (t535.length : Int)
                 ·rw [if_pos c155] at H
                  have c155b0 : decide (x22_3 < (t535.length : Int)) = true := decide_eq_true c155
                  clear c155
                  by_cases c156 : (!((((rd_T32 t535 x22_3).f0).toList) == (((rd_T32 t506 x22_3).f0).toList)) || (!(((rd_T32 t535 x22_3).f1) == ((rd_T32 t506 x22_3).f1)) || (!((((rd_T32 t535 x22_3).f2).toList) == (((rd_T32 t506 x22_3).f2).toList))))) = true
                  ·rw [if_pos c156] at H
                   exact absurd H (by simp)
                  ·rw [if_neg c156] at H
                   have c156b0 : (!((((rd_T32 t535 x22_3).f0).toList) == (((rd_T32 t506 x22_3).f0).toList)) || (!(((rd_T32 t535 x22_3).f1) == ((rd_T32 t506 x22_3).f1)) || (!((((rd_T32 t535 x22_3).f2).toList) == (((rd_T32 t506 x22_3).f2).toList))))) = false := by simpa using c156
                   clear c156
                   have H' := Aside0.mk H
                   clear H
                   have hnb157 := NB510_524.out
                   have hnc157 := NB524_510.out
                   have hnb158 := NB510_531.out
                   have hnc158 := NB531_510.out
                   have hnb159 := NB510_540.out
                   have hnc159 := NB540_510.out
                   obtain ⟨hcz160_0,hcz160_1⟩ := cl2 BK510.out
                   obtain ⟨hfz160_0,hfz160_1⟩ := fz2 BK510.out
                   try go_wp2
                   replace HO_511000 := Aside0.mk (Kd.R_drew HO_511000.out)
                   replace HO_525000 := Aside0.mk (Kd.R_drew HO_525000.out)
                   replace HO_532000 := Aside0.mk (Kd.R_drew HO_532000.out)
                   replace HO_541000 := Aside0.mk (Kd.R_drew HO_541000.out)
                   replace BK510 := Aside0.mk (blk_drew BK510.out)
                   replace BK524 := Aside0.mk (blk_drew BK524.out)
                   replace BK531 := Aside0.mk (blk_drew BK531.out)
                   replace BK540 := Aside0.mk (blk_drew BK540.out)
                   replace HB := Aside0.mk (below_drew1 HB.out)
                   have p547 : 0 ≤ (x22_3 : Int) := od
                   have q547 : x22_3 < (t506.length : Int) := od
                   obtain ⟨ad547,e547,hx547_0,hx547_1,hx547_2⟩ := at_T32 (Kd.R_reads' HO_511000.out).2.2 x22_3 p547 q547
                   cases e547
                   replace p547 := eq_true p547
                   replace q547 := eq_true q547
                   refine start_ (n:=15) (S:=fun w' => w'.cell? ⟨gb524,0,none⟩ = some (.slice Ao30 t518.length co30) ∧ w'.cell? ⟨gb524,1,none⟩ = some (.int .i64 t521) ∧ w'.cell? ⟨gb510,0,none⟩ = some (.slice (some ad547) t506.length co21) ∧ w'.cell? ⟨gb510,1,none⟩ = some (.int .i64 t509) ∧ w'.cell? (ad547.add ((x22_3).toNat * 3)) = some (.string ((rd_T32 t506 x22_3).f0)) ∧ w'.cell? ⟨(ad547.add ((x22_3).toNat * 3)).block,(ad547.add ((x22_3).toNat * 3)).off + 1,none⟩ = some (.int .i64 ((rd_T32 t506 x22_3).f1)) ∧ w'.cell? ⟨(ad547.add ((x22_3).toNat * 3)).block,(ad547.add ((x22_3).toNat * 3)).off + 2,none⟩ = some (.string ((rd_T32 t506 x22_3).f2))) (ds := []) (bm 15 0) (by kernel_rfl) rfl rfl ⟨bl BK524 0,bl BK524 1,bl BK510 0,bl BK510 1,hx547_0,hx547_1,hx547_2⟩ (fun hHeld => ?_); refine with_tabW laws_FnStore.tab16 laws_FnStore.bits16 (fun HT_ HW_ => ?_)
                   generalize wr.drew = w161 at HO_511000 HO_525000 HO_532000 HO_541000 BK510 BK524 BK531 BK540 HB hx547_0 hx547_1 hx547_2 hHeld ⊢
                   refine pV_ 1 141 (bm 15 2) HT_.out ?_
                   refine pV_ 3 143 (bm 15 10) HT_.out ?_
                   refine tk 0 140 (bm 15 11) HT_.out HW_.out hHeld ?_
                   refine tk 2 142 (bm 15 15) HT_.out HW_.out hHeld ?_
                   refine pV_ 4 144 (bm 15 31) HT_.out ?_
                   refine pV_ 5 145 (bm 15 63) HT_.out ?_
                   refine tk 6 146 (bm 15 127) HT_.out HW_.out hHeld ?_
                   refine one_ (i:=7) (N:=some 147) (bm 15 255) rfl rfl (one_of HT_.out (by kernel_rfl)) (by decide) (fun K hK => ?_)
                   refine goes_ Try.func14 (by kernel_rfl) rfl #[.agg #[.slice Ao30 t518.length co30,.int .i64 t521],.string ((rd_T32 t506 x22_3).f0)] (by rfl) rfl rfl mA ?_
                   with_reducible refine (impl_GetObject.calls k3 _ _ t518 t521 ((rd_T32 t506 x22_3).f0) t548 t549 t550 _ ?side1 ?side2 A151.out).mono ?_
                   (case side1 => repeat (first | exact (Kd.R_reads' HO_525000.out).2.2 | (with_reducible refine Kd.C_alloc ?_ _) | (with_reducible refine Kd.C_drewN ?_ _) | (with_reducible refine Kd.C_drew ?_)))
                   (case side2 => exact (Kd.R_reads' HO_525000.out).2.1)
                   rintro e w162 ⟨rfl,hb⟩
                   have HS4_ := (hb.cell (World.block_lt_of_cell? _ _ (hHeld.2.2.2.2.1))).trans (hHeld.2.2.2.2.1)
                   have HS5_ := (hb.cell (World.block_lt_of_cell? _ _ (hHeld.2.2.2.2.2.1))).trans (hHeld.2.2.2.2.2.1)
                   have HS6_ := (hb.cell (World.block_lt_of_cell? _ _ (hHeld.2.2.2.2.2.2))).trans (hHeld.2.2.2.2.2.2)
                   refine ⟨_,rfl,?_⟩
                   replace HO_511000 := Aside0.mk (Kd.R_below (rA HO_511000.out) hb)
                   replace HO_525000 := Aside0.mk (Kd.R_below (rA HO_525000.out) hb)
                   replace HO_532000 := Aside0.mk (Kd.R_below (rA HO_532000.out) hb)
                   replace HO_541000 := Aside0.mk (Kd.R_below (rA HO_541000.out) hb)
                   replace BK510 := bbA BK510 hb
                   replace BK524 := bbA BK524 hb
                   replace BK531 := bbA BK531 hb
                   replace BK540 := bbA BK540 hb
                   replace HB := bsA hb
                   clear hb
                   refine hK.out _ _ ⟨bl BK524 0,bl BK524 1,bl BK510 0,bl BK510 1,HS4_,HS5_,HS6_⟩ (fun hHeld => ?_)
                   clear hK K
                   refine nw 147 ?_
                   refine pV_ 8 139 (bm 15 511) HT_.out ?_
                   refine pV_ 9 148 (bm 15 1023) HT_.out ?_
                   refine pV_ 10 149 (bm 15 2047) HT_.out ?_
                   refine pV_ 11 150 (bm 15 4095) HT_.out ?_
                   refine pV_ 12 23 (bm 15 8191) HT_.out ?_
                   refine pV_ 13 24 (bm 15 16383) HT_.out ?_
                   refine pV_ 14 25 (bm 15 32767) HT_.out ?_
                   refine done_ (done_of HT_.out (by kernel_rfl)) ?_
                   try go_wp2
                   replace HO_511000 := Aside0.mk (Kd.R_drew HO_511000.out)
                   replace HO_525000 := Aside0.mk (Kd.R_drew HO_525000.out)
                   replace HO_532000 := Aside0.mk (Kd.R_drew HO_532000.out)
                   replace HO_541000 := Aside0.mk (Kd.R_drew HO_541000.out)
                   replace BK510 := Aside0.mk (blk_drew BK510.out)
                   replace BK524 := Aside0.mk (blk_drew BK524.out)
                   replace BK531 := Aside0.mk (blk_drew BK531.out)
                   replace BK540 := Aside0.mk (blk_drew BK540.out)
                   replace HB := Aside0.mk (below_drew1 HB.out)
                   have p551 : 0 ≤ (x22_3 : Int) := od
                   have q551 : x22_3 < (t506.length : Int) := od
                   obtain ⟨ad551,e551,hx551_0,hx551_1,hx551_2⟩ := at_T32 (Kd.R_reads' HO_511000.out).2.2 x22_3 p551 q551
                   obtain rfl : ad547 = ad551 := (by injection e551)
                   replace p551 := eq_true p551
                   replace q551 := eq_true q551
                   have p552 : 0 ≤ (x22_3 : Int) := od
                   have q552 : x22_3 < (t506.length : Int) := od
                   obtain ⟨ad552,e552,hx552_0,hx552_1,hx552_2⟩ := at_T32 (Kd.R_reads' HO_511000.out).2.2 x22_3 p552 q552
                   obtain rfl : ad547 = ad552 := (by injection e552)
                   replace p552 := eq_true p552
                   replace q552 := eq_true q552
                   have p553 : 0 ≤ (x22_3 : Int) := od
                   have q553 : x22_3 < (t535.length : Int) := od
                   obtain ⟨ad553,e553,hx553_0,hx553_1,hx553_2⟩ := at_T32 (Kd.R_reads' HO_541000.out).2.2 x22_3 p553 q553
                   cases e553
                   replace p553 := eq_true p553
                   replace q553 := eq_true q553
                   have p554 : 0 ≤ (x22_3 : Int) := od
                   have q554 : x22_3 < (t506.length : Int) := od
                   obtain ⟨ad554,e554,hx554_0,hx554_1,hx554_2⟩ := at_T32 (Kd.R_reads' HO_511000.out).2.2 x22_3 p554 q554
                   obtain rfl : ad547 = ad554 := (by injection e554)
                   replace p554 := eq_true p554
                   replace q554 := eq_true q554
                   refine start_ (n:=35) (S:=fun w' => w'.cell? ⟨gb510,0,none⟩ = some (.slice (some ad547) t506.length co21) ∧ w'.cell? ⟨gb510,1,none⟩ = some (.int .i64 t509) ∧ w'.cell? ⟨gb540,0,none⟩ = some (.slice (some ad553) t535.length co45) ∧ w'.cell? ⟨gb540,1,none⟩ = some (.int .i64 t538) ∧ w'.cell? (ad547.add ((x22_3).toNat * 3)) = some (.string ((rd_T32 t506 x22_3).f0)) ∧ w'.cell? ⟨(ad547.add ((x22_3).toNat * 3)).block,(ad547.add ((x22_3).toNat * 3)).off + 1,none⟩ = some (.int .i64 ((rd_T32 t506 x22_3).f1)) ∧ w'.cell? ⟨(ad547.add ((x22_3).toNat * 3)).block,(ad547.add ((x22_3).toNat * 3)).off + 2,none⟩ = some (.string ((rd_T32 t506 x22_3).f2)) ∧ w'.cell? (ad547.add ((x22_3).toNat * 3)) = some (.string ((rd_T32 t506 x22_3).f0)) ∧ w'.cell? ⟨(ad547.add ((x22_3).toNat * 3)).block,(ad547.add ((x22_3).toNat * 3)).off + 1,none⟩ = some (.int .i64 ((rd_T32 t506 x22_3).f1)) ∧ w'.cell? ⟨(ad547.add ((x22_3).toNat * 3)).block,(ad547.add ((x22_3).toNat * 3)).off + 2,none⟩ = some (.string ((rd_T32 t506 x22_3).f2)) ∧ w'.cell? (ad553.add ((x22_3).toNat * 3)) = some (.string ((rd_T32 t535 x22_3).f0)) ∧ w'.cell? ⟨(ad553.add ((x22_3).toNat * 3)).block,(ad553.add ((x22_3).toNat * 3)).off + 1,none⟩ = some (.int .i64 ((rd_T32 t535 x22_3).f1)) ∧ w'.cell? ⟨(ad553.add ((x22_3).toNat * 3)).block,(ad553.add ((x22_3).toNat * 3)).off + 2,none⟩ = some (.string ((rd_T32 t535 x22_3).f2)) ∧ w'.cell? (ad547.add ((x22_3).toNat * 3)) = some (.string ((rd_T32 t506 x22_3).f0)) ∧ w'.cell? ⟨(ad547.add ((x22_3).toNat * 3)).block,(ad547.add ((x22_3).toNat * 3)).off + 1,none⟩ = some (.int .i64 ((rd_T32 t506 x22_3).f1)) ∧ w'.cell? ⟨(ad547.add ((x22_3).toNat * 3)).block,(ad547.add ((x22_3).toNat * 3)).off + 2,none⟩ = some (.string ((rd_T32 t506 x22_3).f2))) (ds := []) (bm 35 0) (by kernel_rfl) rfl rfl ⟨bl BK510 0,bl BK510 1,bl BK540 0,bl BK540 1,hx551_0,hx551_1,hx551_2,hx552_0,hx552_1,hx552_2,hx553_0,hx553_1,hx553_2,hx554_0,hx554_1,hx554_2⟩ (fun hHeld => ?_); refine with_tabW laws_FnStore.tab17 laws_FnStore.bits17 (fun HT_ HW_ => ?_)
                   generalize w162.drew = w163 at HO_511000 HO_525000 HO_532000 HO_541000 BK510 BK524 BK531 BK540 HB hx551_0 hx551_1 hx551_2 hx552_0 hx552_1 hx552_2 hx553_0 hx553_1 hx553_2 hx554_0 hx554_1 hx554_2 hHeld ⊢
                   refine pV_ 0 151 (bm 35 1) HT_.out ?_
                   refine pV_ 1 152 (bm 35 3) HT_.out ?_
                   refine pV_ 2 153 (bm 35 7) HT_.out ?_
                   refine pV_ 3 154 (bm 35 15) HT_.out ?_
                   refine pV_ 4 155 (bm 35 31) HT_.out ?_
                   refine pV_ 6 157 (bm 35 95) HT_.out ?_
                   refine tk 5 156 (bm 35 127) HT_.out HW_.out hHeld ?_
                   refine pV_ 7 158 (bm 35 255) HT_.out ?_
                   refine pV_ 8 159 (bm 35 511) HT_.out ?_
                   refine tk 9 160 (bm 35 1023) HT_.out HW_.out hHeld ?_
                   refine pV_ 10 161 (bm 35 2047) HT_.out ?_
                   refine pV_ 11 162 (bm 35 4095) HT_.out ?_
                   refine pV_ 12 163 (bm 35 8191) HT_.out ?_
                   refine pV_ 13 164 (bm 35 16383) HT_.out ?_
                   refine pV_ 14 165 (bm 35 32767) HT_.out ?_
                   refine pV_ 16 167 (bm 35 98303) HT_.out ?_
                   refine tk 15 166 (bm 35 131071) HT_.out HW_.out hHeld ?_
                   refine pV_ 17 168 (bm 35 262143) HT_.out ?_
                   refine pV_ 18 169 (bm 35 524287) HT_.out ?_
                   refine tk 19 170 (bm 35 1048575) HT_.out HW_.out hHeld ?_
                   refine pV_ 20 171 (bm 35 2097151) HT_.out ?_
                   refine pV_ 21 172 (bm 35 4194303) HT_.out ?_
                   refine pV_ 22 173 (bm 35 8388607) HT_.out ?_
                   refine pV_ 23 174 (bm 35 16777215) HT_.out ?_
                   refine pV_ 25 176 (bm 35 50331647) HT_.out ?_
                   refine pV_ 28 179 (bm 35 318767103) HT_.out ?_
                   refine pV_ 30 181 (bm 35 1392508927) HT_.out ?_
                   refine tk 24 175 (bm 35 1409286143) HT_.out HW_.out hHeld ?_
                   refine pV_ 26 177 (bm 35 1476395007) HT_.out ?_
                   refine tk 27 178 (bm 35 1610612735) HT_.out HW_.out hHeld ?_
                   refine tk 29 180 (bm 35 2147483647) HT_.out HW_.out hHeld ?_
                   refine pV_ 31 182 (bm 35 4294967295) HT_.out ?_
                   refine tk 32 183 (bm 35 8589934591) HT_.out HW_.out hHeld ?_
                   refine pV_ 33 184 (bm 35 17179869183) HT_.out ?_
                   refine pV_ 34 185 (bm 35 34359738367) HT_.out ?_
                   refine done_ (done_of HT_.out (by kernel_rfl)) ?_
                   try go_wp2
                   go_roundg k3
                   case measure => have := HJ2.out; have := HJ17.out; have := HK3.out; omega
                   case rel => exact ⟨(wrap64 (x22_3 + 1)),(by first | rfl | (simp; done) | (simp [*]; done)),H',⟨by have := HJ2.out; have := HJ17.out; have := HK3.out; omega⟩,⟨rA HO_511000.out⟩,⟨rA HO_525000.out⟩,⟨rA HO_532000.out⟩,⟨rA HO_541000.out⟩,⟨kA BK510.out⟩,⟨kA BK524.out⟩,⟨kA BK531.out⟩,⟨kA BK540.out⟩,⟨bA⟩⟩
                 ·rw [if_neg c155] at H
                  exact absurd H (by simp)
                ·rw [if_neg c154] at H
                 have c154b0 : (t549 == ((rd_T32 t506 x22_3).f1)) = false := beq_eq_false_iff_ne.mpr c154
                 have c154b1 : (t549 != ((rd_T32 t506 x22_3).f1)) = true := bne_iff_ne.mpr c154
                 exact absurd H (by simp)
               ·rw [if_neg c153] at H
                have c153b0 : (t548.toList == ((rd_T32 t506 x22_3).f2).toList) = false := beq_eq_false_iff_ne.mpr c153
                have c153b1 : (t548.toList != ((rd_T32 t506 x22_3).f2).toList) = true := bne_iff_ne.mpr c153
                exact absurd H (by simp)
              ·rw [if_neg c152] at H
               have c152b0 : (t550 == 0) = false := beq_eq_false_iff_ne.mpr c152
               have c152b1 : (t550 != 0) = true := bne_iff_ne.mpr c152
               exact absurd H (by simp)
             ·rw [if_neg c150] at H
              exact absurd H (by simp)
            ·rw [if_neg c149] at H
             have c149b0 : decide (x22_3 < (t506.length : Int)) = false := decide_eq_false c149
             clear c149
             replace H := Option.bind_eq_some_iff.mp H
             obtain ⟨t555,A1640,H⟩ := H
             try dsimp only at H
             have A164 := Aside0.mk A1640
             clear A1640
             by_cases c165 : t555 = true
             ·subst c165
              rw [if_pos rfl] at H
              obtain rfl := Option.some.inj H
              have hnb166 := NB510_524.out
              have hnc166 := NB524_510.out
              have hnb167 := NB510_531.out
              have hnc167 := NB531_510.out
              have hnb168 := NB510_540.out
              have hnc168 := NB540_510.out
              obtain ⟨hcz169_0,hcz169_1⟩ := cl2 BK510.out
              obtain ⟨hfz169_0,hfz169_1⟩ := fz2 BK510.out
              have hnb170 := NB524_531.out
              have hnc170 := NB531_524.out
              have hnb171 := NB524_540.out
              have hnc171 := NB540_524.out
              obtain ⟨hcz172_0,hcz172_1⟩ := cl2 BK524.out
              obtain ⟨hfz172_0,hfz172_1⟩ := fz2 BK524.out
              have hnb173 := NB531_540.out
              have hnc173 := NB540_531.out
              obtain ⟨hcz174_0,hcz174_1⟩ := cl2 BK531.out
              obtain ⟨hfz174_0,hfz174_1⟩ := fz2 BK531.out
              go_wp2_with (first | ((with_reducible refine gate_callee (f:=19) rfl ?_); refine goesL_ (some 188) rfl rfl Try.func19 (by kernel_rfl) rfl #[.agg #[.slice Ao30 t518.length co30,.int .i64 t521],.agg #[.slice Ao36 t525.length co36,.int .i64 t528]] rfl mA ?_; (with_reducible refine (impl_SameStore.calls k3 _ _ t518 t521 _ _ t525 t528 true _ ?side1 ?side2 ?side3 ?side4 A164.out).mono ?_); (case side1 => repeat (first | exact (Kd.R_reads' HO_525000.out).2.2 | (with_reducible refine Kd.C_alloc ?_ _) | (with_reducible refine Kd.C_drewN ?_ _) | (with_reducible refine Kd.C_drew ?_))); (case side2 => exact (Kd.R_reads' HO_525000.out).2.1); (case side3 => repeat (first | exact (Kd.R_reads' HO_532000.out).2.2 | (with_reducible refine Kd.C_alloc ?_ _) | (with_reducible refine Kd.C_drewN ?_ _) | (with_reducible refine Kd.C_drew ?_))); (case side4 => exact (Kd.R_reads' HO_532000.out).2.1); rintro e w175 ⟨rfl,hb⟩; refine ⟨_,rfl,?_⟩; replace HO_511000 := Aside0.mk (Kd.R_below (rA HO_511000.out) hb); replace HO_525000 := Aside0.mk (Kd.R_below (rA HO_525000.out) hb); replace HO_532000 := Aside0.mk (Kd.R_below (rA HO_532000.out) hb); replace HO_541000 := Aside0.mk (Kd.R_below (rA HO_541000.out) hb); replace BK510 := bbA BK510 hb; replace BK524 := bbA BK524 hb; replace BK531 := bbA BK531 hb; replace BK540 := bbA BK540 hb; replace HB := bsA hb; clear hb; obtain ⟨hcz176_0,hcz176_1⟩ := cl2 BK540.out; obtain ⟨hfz176_0,hfz176_1⟩ := fz2 BK540.out; obtain ⟨hcz177_0,hcz177_1⟩ := cl2 BK524.out; obtain ⟨hfz177_0,hfz177_1⟩ := fz2 BK524.out))
              go_ret
              exact ⟨by first | rfl | (simp only [i64_w,i32_w] <;> rfl) | (simp [errW_none,errW_some] <;> rfl) | (simp [*,errW_none,errW_some] <;> rfl),bA⟩
             ·replace c165 := Bool.eq_false_iff.mpr c165
              subst c165
              rw [if_neg (show ¬ (false = true) by decide)] at H
              exact absurd H (by simp)
theorem laws_FnStore.calls (k : Nat) (A0 : Option Addr) (c0 : Nat) (l0 : List Int) (A1 : Option Addr) (c1 : Nat) (l1 : List Int) (r : Bool) (w : World) (hr0 : Kd.C (Kd.int .u8) w A0 l0.length l0) (hc0 : l0.length ≤ c0) (hr1 : Kd.C (Kd.int .u8) w A1 l1.length l1) (hc1 : l1.length ≤ c1) (h : laws_FnStore.f k l0 l1 = some r) : Calls Try.prog 4 #[.slice A0 l0.length c0,.slice A1 l1.length c1] w fun e w' => e = .returned (.bool r) ∧ Below w.heap.size w w' := (FnStore_cut1.2 ⟨(FnStore_cut2.2 ⟨(FnStore_cut3.2 ⟨(FnStore_cut4.2 ⟨FnStore_cut5⟩)⟩)⟩)⟩) k A0 c0 l0 A1 c1 l1 r w hr0 hc0 hr1 hc1 h

end Go.Proofs.Ytgkfemnfbkgeiaa.XFnStore

