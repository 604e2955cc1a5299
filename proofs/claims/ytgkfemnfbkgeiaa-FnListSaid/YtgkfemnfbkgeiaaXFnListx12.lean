-- Printed by this session's own program wip/tools/xprint.py, which widens the kit's print. Not trusted: Lean checks it.
import Derived.Test.YtgkfemnfbkgeiaaXFnListx0
import Derived.Test.YtgkfemnfbkgeiaaXFnListx5
import Derived.Test.YtgkfemnfbkgeiaaXFnListx8
import Derived.Test.YtgkfemnfbkgeiaaXFnListx11
namespace Go.Proofs.Ytgkfemnfbkgeiaa.XFnList
open List (setIfInBounds_toArray set_cons_zero set_cons_succ)
open Go.RowKit Go.Proofs.YtgkfemnfbkgeiaaW.PrintWords Go.Proofs.YtgkfemnfbkgeiaaW.PrintLast Go.Proofs.YtgkfemnfbkgeiaaW.PrintMore
attribute [local go_sem] max2_int min2_int max_two min_two max_three min_three max_four min_four   -- for this text's walks alone
set_option linter.unusedVariables false
set_option linter.unusedSimpArgs false

/-! ### laws_FnList: function 3 -/
mutual
def laws_FnList.j0 : Nat → List Int → List Int → Bool → Option (Bool)
 | 0,_,_,_ => none
 | k + 1,x0,x1,x26 => if x26 = true then (some true) else ((spec_PlainStore.f k x0).bind fun bt422 => ((some (([(⟨#[]⟩ : ByteArray),(⟨#[97,47]⟩ : ByteArray),(⟨#[98,47,49]⟩ : ByteArray)] : List ByteArray) : List ByteArray)).bind fun y427 => ((laws_at.f x1 0 3).bind fun t430 => (if 0 ≤ t430 then (if t430 < (y427.length : Int) then ((laws_at.f x1 1 3).bind fun t432 => ((impl_ListKeys.f k bt422.1 bt422.2 (rdOf ByteArray.empty y427 t430) (⟨#[]⟩ : ByteArray) 300).bind fun bt433 => ((spec_ListKeys.f k bt422.1 bt422.2 (rdOf ByteArray.empty y427 t430) (⟨#[]⟩ : ByteArray) 300).bind fun bt437 => (laws_FnList.l0 k (rdOf ByteArray.empty y427 t430) (wrap64 (1 + t432)) bt433.1 bt433.2 bt437.1 (([] : List ByteArray)) (⟨#[]⟩ : ByteArray) 0 bt422.1 bt422.2)))) else (none)) else (none)))))
def laws_FnList.j3 : Nat → ByteArray → List ByteArray → Int → List ByteArray → List ByteArray → List (S32) → Int → Option (Bool)
 | 0,_,_,_,_,_,_,_ => none
 | k + 1,x6,x8,x9,x10,x12,x427000,x427001 => laws_FnList.l1 k x6 x8 x9 x10 x12 0 0 x427000 x427001
def laws_FnList.l1 : Nat → ByteArray → List ByteArray → Int → List ByteArray → List ByteArray → Int → Int → List (S32) → Int → Option (Bool)
 | 0,_,_,_,_,_,_,_,_,_ => none
 | k + 1,x6,x8,x9,x10,x12,x17,x18,x427000,x427001 => if x18 < (x427000.length : Int) then (if 0 ≤ x18 then (if (((rd_T32 x427000 x18).f0).size : Int) ≥ (x6.size : Int) then (if 0 ≤ (x6.size : Int) then (if (x6.size : Int) ≤ (((rd_T32 x427000 x18).f0).size : Int) then (if (((rd_T32 x427000 x18).f0).extract 0 ((x6.size : Int) : Int).toNat).toList = x6.toList then (laws_FnList.l1 k x6 x8 x9 x10 x12 (wrap64 (x17 + 1)) (wrap64 (x18 + 1)) x427000 x427001) else (laws_FnList.l1 k x6 x8 x9 x10 x12 x17 (wrap64 (x18 + 1)) x427000 x427001)) else (none)) else (none)) else (laws_FnList.l1 k x6 x8 x9 x10 x12 x17 (wrap64 (x18 + 1)) x427000 x427001)) else (none)) else (if x9 = 0 then ((laws_sameTexts.f k x8 x10).bind fun t454 => (if t454 = true then ((laws_sameTexts.f k x8 x12).bind fun t455 => (if t455 = true then (some ((x8.length : Int) == x17)) else (none))) else (none))) else (none))
def laws_FnList.l0 : Nat → ByteArray → Int → List ByteArray → Int → List ByteArray → List ByteArray → ByteArray → Int → List (S32) → Int → Option (Bool)
 | 0,_,_,_,_,_,_,_,_,_,_ => none
 | k + 1,x6,x7,x8,x9,x10,x12,x13,x14,x427000,x427001 => if x14 ≤ (x427000.length : Int) then ((impl_ListKeys.f k x427000 x427001 x6 x13 x7).bind fun bt444 => (if bt444.2 = 0 then (laws_FnList.j2 k x6 x7 x8 x9 x10 x12 x14 bt444.1 (decide ((bt444.1.length : Int) > x7)) x427000 x427001) else (laws_FnList.j2 k x6 x7 x8 x9 x10 x12 x14 bt444.1 true x427000 x427001))) else (laws_FnList.j3 k x6 x8 x9 x10 x12 x427000 x427001)
def laws_FnList.j2 : Nat → ByteArray → Int → List ByteArray → Int → List ByteArray → List ByteArray → Int → List ByteArray → Bool → List (S32) → Int → Option (Bool)
 | 0,_,_,_,_,_,_,_,_,_,_,_ => none
 | k + 1,x6,x7,x8,x9,x10,x12,x14,x15,x72,x427000,x427001 => if x72 = true then (none) else (if (x15.length : Int) = 0 then (laws_FnList.j3 k x6 x8 x9 x10 x12 x427000 x427001) else (if x12.length + x15.length < 8796093022208 then (if 0 ≤ (wrap64 ((x15.length : Int) - 1)) then (if (wrap64 ((x15.length : Int) - 1)) < (x15.length : Int) then (laws_FnList.l0 k x6 x7 x8 x9 x10 (x12 ++ x15) (rdOf ByteArray.empty x15 (wrap64 ((x15.length : Int) - 1))) (wrap64 (x14 + 1)) x427000 x427001) else (none)) else (none)) else (none)))
end
def laws_FnList.f (k : Nat) (l0 : List Int) (l1 : List Int) : Option (Bool) := if (l0.length : Int) > 1048576 then (laws_FnList.j0 k l0 l1 true) else (laws_FnList.j0 k l0 l1 (decide ((l1.length : Int) > 1048576)))
theorem laws_FnList.mono_l : ∀ k,(∀ y0 y1 y2,LeO (laws_FnList.j0 k y0 y1 y2) (laws_FnList.j0 (k + 1) y0 y1 y2)) ∧ (∀ y0 y1 y2 y3 y4 y5 y6,LeO (laws_FnList.j3 k y0 y1 y2 y3 y4 y5 y6) (laws_FnList.j3 (k + 1) y0 y1 y2 y3 y4 y5 y6)) ∧ (∀ y0 y1 y2 y3 y4 y5 y6 y7 y8,LeO (laws_FnList.l1 k y0 y1 y2 y3 y4 y5 y6 y7 y8) (laws_FnList.l1 (k + 1) y0 y1 y2 y3 y4 y5 y6 y7 y8)) ∧ (∀ y0 y1 y2 y3 y4 y5 y6 y7 y8 y9,LeO (laws_FnList.l0 k y0 y1 y2 y3 y4 y5 y6 y7 y8 y9) (laws_FnList.l0 (k + 1) y0 y1 y2 y3 y4 y5 y6 y7 y8 y9)) ∧ (∀ y0 y1 y2 y3 y4 y5 y6 y7 y8 y9 y10,LeO (laws_FnList.j2 k y0 y1 y2 y3 y4 y5 y6 y7 y8 y9 y10) (laws_FnList.j2 (k + 1) y0 y1 y2 y3 y4 y5 y6 y7 y8 y9 y10))
 | 0 => ⟨fun _ _ _ r h => by simp [laws_FnList.j0] at h,fun _ _ _ _ _ _ _ r h => by simp [laws_FnList.j3] at h,fun _ _ _ _ _ _ _ _ _ r h => by simp [laws_FnList.l1] at h,fun _ _ _ _ _ _ _ _ _ _ r h => by simp [laws_FnList.l0] at h,fun _ _ _ _ _ _ _ _ _ _ _ r h => by simp [laws_FnList.j2] at h⟩
 | k + 1 => by
  obtain ⟨ih0,ih1,ih2,ih3,ih4⟩ := laws_FnList.mono_l k
  refine ⟨?_,?_,?_,?_,?_⟩
  ·intro y0 y1 y2
   unfold laws_FnList.j0
   repeat' first
   | (with_reducible exact ih0 _ _ _)
   | (with_reducible exact ih1 _ _ _ _ _ _ _)
   | (with_reducible exact ih2 _ _ _ _ _ _ _ _ _)
   | (with_reducible exact ih3 _ _ _ _ _ _ _ _ _ _)
   | (with_reducible exact ih4 _ _ _ _ _ _ _ _ _ _ _)
   | (with_reducible exact impl_ListKeys.mono _ _ _ _ _ _)
   | (with_reducible exact laws_sameTexts.mono _ _ _)
   | (with_reducible exact spec_ListKeys.mono _ _ _ _ _ _)
   | (with_reducible exact spec_PlainStore.mono _ _)
   | (with_reducible exact LeO.refl _)
   | (with_reducible exact LeO.none _)
   | (with_reducible refine LeO.ite ?_ ?_)
   | (with_reducible refine LeO.bind ?_ (fun _ => ?_))
   | exact ih0 _ _ _
   | exact ih1 _ _ _ _ _ _ _
   | exact ih2 _ _ _ _ _ _ _ _ _
   | exact ih3 _ _ _ _ _ _ _ _ _ _
   | exact ih4 _ _ _ _ _ _ _ _ _ _ _
   | exact impl_ListKeys.mono _ _ _ _ _ _
   | exact laws_sameTexts.mono _ _ _
   | exact spec_ListKeys.mono _ _ _ _ _ _
   | exact spec_PlainStore.mono _ _
   | exact LeO.none _
   | refine LeO.ite ?_ ?_
   | refine LeO.bind ?_ (fun _ => ?_)
  ·intro y0 y1 y2 y3 y4 y5 y6
   unfold laws_FnList.j3
   repeat' first
   | (with_reducible exact ih0 _ _ _)
   | (with_reducible exact ih1 _ _ _ _ _ _ _)
   | (with_reducible exact ih2 _ _ _ _ _ _ _ _ _)
   | (with_reducible exact ih3 _ _ _ _ _ _ _ _ _ _)
   | (with_reducible exact ih4 _ _ _ _ _ _ _ _ _ _ _)
   | (with_reducible exact impl_ListKeys.mono _ _ _ _ _ _)
   | (with_reducible exact laws_sameTexts.mono _ _ _)
   | (with_reducible exact spec_ListKeys.mono _ _ _ _ _ _)
   | (with_reducible exact spec_PlainStore.mono _ _)
   | (with_reducible exact LeO.refl _)
   | (with_reducible exact LeO.none _)
   | (with_reducible refine LeO.ite ?_ ?_)
   | (with_reducible refine LeO.bind ?_ (fun _ => ?_))
   | exact ih0 _ _ _
   | exact ih1 _ _ _ _ _ _ _
   | exact ih2 _ _ _ _ _ _ _ _ _
   | exact ih3 _ _ _ _ _ _ _ _ _ _
   | exact ih4 _ _ _ _ _ _ _ _ _ _ _
   | exact impl_ListKeys.mono _ _ _ _ _ _
   | exact laws_sameTexts.mono _ _ _
   | exact spec_ListKeys.mono _ _ _ _ _ _
   | exact spec_PlainStore.mono _ _
   | exact LeO.none _
   | refine LeO.ite ?_ ?_
   | refine LeO.bind ?_ (fun _ => ?_)
  ·intro y0 y1 y2 y3 y4 y5 y6 y7 y8
   unfold laws_FnList.l1
   repeat' first
   | (with_reducible exact ih0 _ _ _)
   | (with_reducible exact ih1 _ _ _ _ _ _ _)
   | (with_reducible exact ih2 _ _ _ _ _ _ _ _ _)
   | (with_reducible exact ih3 _ _ _ _ _ _ _ _ _ _)
   | (with_reducible exact ih4 _ _ _ _ _ _ _ _ _ _ _)
   | (with_reducible exact impl_ListKeys.mono _ _ _ _ _ _)
   | (with_reducible exact laws_sameTexts.mono _ _ _)
   | (with_reducible exact spec_ListKeys.mono _ _ _ _ _ _)
   | (with_reducible exact spec_PlainStore.mono _ _)
   | (with_reducible exact LeO.refl _)
   | (with_reducible exact LeO.none _)
   | (with_reducible refine LeO.ite ?_ ?_)
   | (with_reducible refine LeO.bind ?_ (fun _ => ?_))
   | exact ih0 _ _ _
   | exact ih1 _ _ _ _ _ _ _
   | exact ih2 _ _ _ _ _ _ _ _ _
   | exact ih3 _ _ _ _ _ _ _ _ _ _
   | exact ih4 _ _ _ _ _ _ _ _ _ _ _
   | exact impl_ListKeys.mono _ _ _ _ _ _
   | exact laws_sameTexts.mono _ _ _
   | exact spec_ListKeys.mono _ _ _ _ _ _
   | exact spec_PlainStore.mono _ _
   | exact LeO.none _
   | refine LeO.ite ?_ ?_
   | refine LeO.bind ?_ (fun _ => ?_)
  ·intro y0 y1 y2 y3 y4 y5 y6 y7 y8 y9
   unfold laws_FnList.l0
   repeat' first
   | (with_reducible exact ih0 _ _ _)
   | (with_reducible exact ih1 _ _ _ _ _ _ _)
   | (with_reducible exact ih2 _ _ _ _ _ _ _ _ _)
   | (with_reducible exact ih3 _ _ _ _ _ _ _ _ _ _)
   | (with_reducible exact ih4 _ _ _ _ _ _ _ _ _ _ _)
   | (with_reducible exact impl_ListKeys.mono _ _ _ _ _ _)
   | (with_reducible exact laws_sameTexts.mono _ _ _)
   | (with_reducible exact spec_ListKeys.mono _ _ _ _ _ _)
   | (with_reducible exact spec_PlainStore.mono _ _)
   | (with_reducible exact LeO.refl _)
   | (with_reducible exact LeO.none _)
   | (with_reducible refine LeO.ite ?_ ?_)
   | (with_reducible refine LeO.bind ?_ (fun _ => ?_))
   | exact ih0 _ _ _
   | exact ih1 _ _ _ _ _ _ _
   | exact ih2 _ _ _ _ _ _ _ _ _
   | exact ih3 _ _ _ _ _ _ _ _ _ _
   | exact ih4 _ _ _ _ _ _ _ _ _ _ _
   | exact impl_ListKeys.mono _ _ _ _ _ _
   | exact laws_sameTexts.mono _ _ _
   | exact spec_ListKeys.mono _ _ _ _ _ _
   | exact spec_PlainStore.mono _ _
   | exact LeO.none _
   | refine LeO.ite ?_ ?_
   | refine LeO.bind ?_ (fun _ => ?_)
  ·intro y0 y1 y2 y3 y4 y5 y6 y7 y8 y9 y10
   unfold laws_FnList.j2
   repeat' first
   | (with_reducible exact ih0 _ _ _)
   | (with_reducible exact ih1 _ _ _ _ _ _ _)
   | (with_reducible exact ih2 _ _ _ _ _ _ _ _ _)
   | (with_reducible exact ih3 _ _ _ _ _ _ _ _ _ _)
   | (with_reducible exact ih4 _ _ _ _ _ _ _ _ _ _ _)
   | (with_reducible exact impl_ListKeys.mono _ _ _ _ _ _)
   | (with_reducible exact laws_sameTexts.mono _ _ _)
   | (with_reducible exact spec_ListKeys.mono _ _ _ _ _ _)
   | (with_reducible exact spec_PlainStore.mono _ _)
   | (with_reducible exact LeO.refl _)
   | (with_reducible exact LeO.none _)
   | (with_reducible refine LeO.ite ?_ ?_)
   | (with_reducible refine LeO.bind ?_ (fun _ => ?_))
   | exact ih0 _ _ _
   | exact ih1 _ _ _ _ _ _ _
   | exact ih2 _ _ _ _ _ _ _ _ _
   | exact ih3 _ _ _ _ _ _ _ _ _ _
   | exact ih4 _ _ _ _ _ _ _ _ _ _ _
   | exact impl_ListKeys.mono _ _ _ _ _ _
   | exact laws_sameTexts.mono _ _ _
   | exact spec_ListKeys.mono _ _ _ _ _ _
   | exact spec_PlainStore.mono _ _
   | exact LeO.none _
   | refine LeO.ite ?_ ?_
   | refine LeO.bind ?_ (fun _ => ?_)
theorem laws_FnList.mono : ∀ a0 a1 k,LeO (laws_FnList.f k a0 a1) (laws_FnList.f (k + 1) a0 a1) := by
 intro a0 a1 k
 obtain ⟨ih0,ih1,ih2,ih3,ih4⟩ := laws_FnList.mono_l k
 unfold laws_FnList.f
 repeat' first
   | (with_reducible exact ih0 _ _ _)
   | (with_reducible exact ih1 _ _ _ _ _ _ _)
   | (with_reducible exact ih2 _ _ _ _ _ _ _ _ _)
   | (with_reducible exact ih3 _ _ _ _ _ _ _ _ _ _)
   | (with_reducible exact ih4 _ _ _ _ _ _ _ _ _ _ _)
   | (with_reducible exact impl_ListKeys.mono _ _ _ _ _ _)
   | (with_reducible exact laws_sameTexts.mono _ _ _)
   | (with_reducible exact spec_ListKeys.mono _ _ _ _ _ _)
   | (with_reducible exact spec_PlainStore.mono _ _)
   | (with_reducible exact LeO.refl _)
   | (with_reducible exact LeO.none _)
   | (with_reducible refine LeO.ite ?_ ?_)
   | (with_reducible refine LeO.bind ?_ (fun _ => ?_))
   | exact ih0 _ _ _
   | exact ih1 _ _ _ _ _ _ _
   | exact ih2 _ _ _ _ _ _ _ _ _
   | exact ih3 _ _ _ _ _ _ _ _ _ _
   | exact ih4 _ _ _ _ _ _ _ _ _ _ _
   | exact impl_ListKeys.mono _ _ _ _ _ _
   | exact laws_sameTexts.mono _ _ _
   | exact spec_ListKeys.mono _ _ _ _ _ _
   | exact spec_PlainStore.mono _ _
   | exact LeO.none _
   | refine LeO.ite ?_ ?_
   | refine LeO.bind ?_ (fun _ => ?_)
set_option maxHeartbeats 8000000 in
set_option maxRecDepth 100000 in
theorem laws_FnList.calls (k : Nat) (A0 : Option Addr) (c0 : Nat) (l0 : List Int) (A1 : Option Addr) (c1 : Nat) (l1 : List Int) (r : Bool) (w : World) (hr0 : Kd.C (Kd.int .u8) w A0 l0.length l0) (hc0 : l0.length ≤ c0) (hr1 : Kd.C (Kd.int .u8) w A1 l1.length l1) (hc1 : l1.length ≤ c1) (h : laws_FnList.f k l0 l1 = some r) :
  Calls Try.prog 3 #[.slice A0 l0.length c0,.slice A1 l1.length c1] w fun e w' => e = .returned (.bool r) ∧ Below w.heap.size w w' := by
 have hu25 := Try.underlying25
 have HR0 := Aside0.mk hr0
 have HC0 := Aside0.mk hc0
 clear hr0 hc0
 have HR1 := Aside0.mk hr1
 have HC1 := Aside0.mk hc1
 clear hr1 hc1
 have HB := Aside0.mk (Below.refl w.heap.size w)
 have H : (if (l0.length : Int) > 1048576 then (laws_FnList.j0 k l0 l1 true) else (laws_FnList.j0 k l0 l1 (decide ((l1.length : Int) > 1048576)))) = some r := h
 clear h
 have HC3 := Aside0.mk H
 clear H
 go_enter Try.func3,Try.ntmps3
 go_upto_region 1 with (fail)
 go_cut [26] (fun v26 wc => ∃ (kq : Nat) (x26_2 : Bool),v26 = .bool x26_2 ∧ Aside0 (laws_FnList.j0 kq l0 l1 x26_2 = some r) ∧ Aside0 (kq ≤ k) ∧ Aside0 (Below w.heap.size w wc))
 case first =>
  have H := HC3.out
  clear HC3
  by_cases c4 : (l0.length : Int) > 1048576
  ·rw [if_pos c4] at H
   have c4b0 : decide (1048576 < (l0.length : Int)) = true := decide_eq_true c4
   have c4b1 : decide (1048576 < l0.length) = true := decide_eq_true (by omega)
   clear c4
   (first | rw [c4b0] | (simp only [i64_w,i32_w]; rw [c4b0]) | skip)
   have H' := Aside0.mk H
   clear H
   go_wp2
   go_meet
   case rel => exact ⟨_,(true),(by first | rfl | (simp; done) | (simp [*]; done)),H',⟨by first | omega | exact Nat.le_refl _⟩,⟨bA⟩⟩
  ·rw [if_neg c4] at H
   have c4b0 : decide (1048576 < (l0.length : Int)) = false := decide_eq_false c4
   have c4b1 : decide (1048576 < l0.length) = false := decide_eq_false (by omega)
   clear c4
   (first | rw [c4b0] | (simp only [i64_w,i32_w]; rw [c4b0]) | skip)
   have H' := Aside0.mk H
   clear H
   go_wp2
   go_meet
   case rel => exact ⟨_,(decide ((l1.length : Int) > 1048576)),(by first | rfl | (simp; done) | (simp [*]; done)),H',⟨by first | omega | exact Nat.le_refl _⟩,⟨bA⟩⟩
 case rest =>
  clear HC3
  try clear c1
  try clear p2
  try clear c3
  try clear c4
  try clear c4b0
  try clear c4b1
  obtain ⟨kq,x26_2,rfl,HA,HJ2,HB⟩ := hcut
  cases kq with
  | zero => exact absurd HA.out (by simp [laws_FnList.j0])
  | succ kj2 =>
   have H := HA.out
   clear HA
   simp only [laws_FnList.j0] at H
   by_cases c5 : x26_2 = true
   ·subst c5
    rw [if_pos rfl] at H
    obtain rfl := Option.some.inj H
    go_wp2
    go_ret
    exact ⟨by first | rfl | (simp only [i64_w,i32_w] <;> rfl) | (simp [errW_none,errW_some] <;> rfl) | (simp [*,errW_none,errW_some] <;> rfl),bA⟩
   ·replace c5 := Bool.eq_false_iff.mpr c5
    subst c5
    rw [if_neg (show ¬ (false = true) by decide)] at H
    replace H := Option.bind_eq_some_iff.mp H
    obtain ⟨⟨t422,t425⟩,A60,H⟩ := H
    try dsimp only at H
    have A6 := Aside0.mk A60
    clear A60
    obtain ⟨y427,hy427⟩ : ∃ y_ : List ByteArray,y_ = (([(⟨#[]⟩ : ByteArray),(⟨#[97,47]⟩ : ByteArray),(⟨#[98,47,49]⟩ : ByteArray)] : List ByteArray)) := ⟨_,rfl⟩
    replace H : ((laws_at.f l1 0 3).bind fun t430 => (if 0 ≤ t430 then (if t430 < (y427.length : Int) then ((laws_at.f l1 1 3).bind fun t432 => ((impl_ListKeys.f kj2 t422 t425 (rdOf ByteArray.empty y427 t430) (⟨#[]⟩ : ByteArray) 300).bind fun bt433 => ((spec_ListKeys.f kj2 t422 t425 (rdOf ByteArray.empty y427 t430) (⟨#[]⟩ : ByteArray) 300).bind fun bt437 => (laws_FnList.l0 kj2 (rdOf ByteArray.empty y427 t430) (wrap64 (1 + t432)) bt433.1 bt433.2 bt437.1 (([] : List ByteArray)) (⟨#[]⟩ : ByteArray) 0 t422 t425)))) else (none)) else (none))) = some r := by first | (rw [hy427]; with_reducible exact H) | (have H2_ := (Option.bind_some _ _).symm.trans H; rw [hy427]; with_reducible exact H2_) | (have H2_ := (Option.bind_some _ _).symm.trans H; with_reducible exact H2_) | with_reducible exact H | (rw [hy427]; exact H) | exact H
    have Ny427 := Aside0.mk hy427
    clear hy427
    replace H := Option.bind_eq_some_iff.mp H
    obtain ⟨t430,A70,H⟩ := H
    try dsimp only at H
    have A7 := Aside0.mk A70
    clear A70
    by_cases c8 : 0 ≤ t430
    ·rw [if_pos c8] at H
     have c8b0 : decide (0 ≤ t430) = true := decide_eq_true c8
     clear c8
     by_cases c9 : t430 < (y427.length : Int)
     ·rw [if_pos c9] at H
      have c9b0 : decide (t430 < (y427.length : Int)) = true := decide_eq_true c9
      clear c9
      replace H := Option.bind_eq_some_iff.mp H
      obtain ⟨t432,A100,H⟩ := H
      try dsimp only at H
      have A10 := Aside0.mk A100
      clear A100
      replace H := Option.bind_eq_some_iff.mp H
      obtain ⟨⟨t433,t436⟩,A110,H⟩ := H
      try dsimp only at H
      have A11 := Aside0.mk A110
      clear A110
      replace H := Option.bind_eq_some_iff.mp H
      obtain ⟨⟨t437,t440⟩,A120,H⟩ := H
      try dsimp only at H
      have A12 := Aside0.mk A120
      clear A120
      obtain ⟨y441,hy441⟩ : ∃ y_ : List ByteArray,y_ = (([] : List ByteArray)) := ⟨_,rfl⟩
      replace H : (laws_FnList.l0 kj2 (rdOf ByteArray.empty y427 t430) (wrap64 (1 + t432)) t433 t436 t437 y441 (⟨#[]⟩ : ByteArray) 0 t422 t425) = some r := by first | (rw [hy441]; with_reducible exact H) | (have H2_ := (Option.bind_some _ _).symm.trans H; rw [hy441]; with_reducible exact H2_) | (have H2_ := (Option.bind_some _ _).symm.trans H; with_reducible exact H2_) | with_reducible exact H | (rw [hy441]; exact H) | exact H
      have Ny441 := Aside0.mk hy441
      clear hy441
      have HC13 := Aside0.mk H
      clear H
      go_upto_block 0 with (first | ((with_reducible refine gate_callee (f:=6) rfl ?_); refine goesL_ (some 28) rfl rfl Try.func6 (by kernel_rfl) rfl #[.slice A0 l0.length c0] rfl mA ?_; (with_reducible refine (spec_PlainStore.calls kj2 _ _ l0 t422 t425 _ ?side1 ?side2 A6.out).mono ?_); (case side1 => repeat (first | exact (Kd.C_below HR0.out HB.out) | (with_reducible refine Kd.C_alloc ?_ _) | (with_reducible refine Kd.C_drewN ?_ _) | (with_reducible refine Kd.C_drew ?_))); (case side2 => exact HC0.out); rintro e w14 ⟨v423,rfl,ho0,hb⟩; refine ⟨_,rfl,?_⟩; have n0_ := Aside0.mk (Kd.R_lower ho0 (below_size bA)); have n1_ := Aside0.mk (below_step bA hb); clear HB; have HO424 := n0_; have HB := n1_; clear n0_ n1_; (try clear hb); (try clear hb2); (try clear hk); (try clear hi); (try clear ho0)) | ((with_reducible refine gate_dst (N:=5) rfl ?_); (try (refine gate_guard (by rfl) ?_; dsimp only)); refine box_event ?hg (N:=5) ?hd (cs := #[.slice none 0 0,.int .i64 0]) (t:=25) ?hr ?_; (case hd => rfl); (case hg => rfl); (case hr => first | (go_simp; done) | (go_simp; rfl)); intro gb426 hg w15 hbox hb; have n0_ := Aside0.mk (Kd.R_below (rA HO424.out) hb); have n1_ := Aside0.mk (below_step bA hb); have n2_ := Aside0.mk (hbox); have n3_ := Aside0.mk ((by rw [hg]; exact (below_size bA) : w.heap.size ≤ gb426)); have n4_ := Aside0.mk ((by rw [hg]; exact (below_size bA) : w.heap.size ≤ gb426)); clear HO424; clear HB; have HO424 := n0_; have HB := n1_; have BK426 := n2_; have GW426 := n3_; have GE426 := n4_; clear n0_ n1_ n2_ n3_ n4_; clear hb hbox hg; obtain ⟨Ao16,co16,eo16⟩ := Kd.R_slice HO424.out; subst eo16; have hcz17_0 : w15.cell? ⟨gb426,0,none⟩ = some (.slice none 0 0) := (blk_cell BK426.out 0).trans rfl; have hcz17_1 : w15.cell? ⟨gb426,1,none⟩ = some (.int .i64 0) := (blk_cell BK426.out 1).trans rfl; have hfz17_0 := blk_frozen BK426.out 0; have hfz17_1 := blk_frozen BK426.out 1) | ((with_reducible refine gate_dst (N:=29) rfl ?_); (try (refine gate_guard (by rfl) ?_; dsimp only)); refine Kd.R_lit Kd.string _ 9 ?hg (N:=29) ?hd (xs := ([(⟨#[]⟩ : ByteArray),(⟨#[97,47]⟩ : ByteArray),(⟨#[98,47,49]⟩ : ByteArray)] : List ByteArray)) (inner := [.string (⟨#[]⟩ : ByteArray),.string (⟨#[97,47]⟩ : ByteArray),.string (⟨#[98,47,49]⟩ : ByteArray)]) (ok := fun _ => True) (okp := fun _ => True) ?hr ?hp (fun _ hk => hk) trivial (Below.refl _ _) (Nat.le_refl _) (by simp) ?_; (case hd => rfl); (case hg => rfl); (case hr => first | (go_simp; done) | (go_simp; rfl)); (case hp => exact (Reps.one (show Kd.M Kd.string _ _ _ (⟨#[]⟩ : ByteArray) [.string (⟨#[]⟩ : ByteArray)] from rfl) (Reps.one (show Kd.M Kd.string _ _ _ (⟨#[97,47]⟩ : ByteArray) [.string (⟨#[97,47]⟩ : ByteArray)] from rfl) (Reps.one (show Kd.M Kd.string _ _ _ (⟨#[98,47,49]⟩ : ByteArray) [.string (⟨#[98,47,49]⟩ : ByteArray)] from rfl) (Reps.none _ _))))); intro v428 w18 ho19 hb hg_ hnew_; clear hg_ hnew_; (first | rw [← Ny427.out] at ho19 | (simp only [Int.reduceToNat] at ho19; rw [← Ny427.out] at ho19)); have n0_ := Aside0.mk (Kd.R_below (by (with_reducible repeat (first | apply Kd.R_alloc | apply Kd.R_drewN | apply Kd.R_drew)); exact (Kd.R_mono (Kd.R_far (p:=⟨gb426,1,none⟩) (Kd.R_far (p:=⟨gb426,0,none⟩) (Kd.R_types HO424.out BK426.out (by decide)) (fun _ hk => hk.2) (.slice Ao16 t422.length co16)) (fun _ hk => hk.2) (.int .i64 t425)) (fun _ h_ => h_.1))) hb); have n1_ := Aside0.mk (Kd.R_lower ho19 (below_size bA)); have n2_ := Aside0.mk (blk_below (g:=gb426) (o:=.cells #[.slice Ao16 t422.length co16,.int .i64 t425] 25 (0,0)) (by (with_reducible repeat (first | refine blk_drewN ?_ _ | refine blk_drew ?_ | refine blk_alloc ?_ _)); refine blk_put (cs := #[.slice Ao16 t422.length co16,.int .i64 0]) ?_ 1 _ rfl; (with_reducible repeat (first | refine blk_drewN ?_ _ | refine blk_drew ?_ | refine blk_alloc ?_ _)); refine blk_put (cs := #[.slice none 0 0,.int .i64 0]) ?_ 0 _ rfl; (with_reducible repeat (first | refine blk_drewN ?_ _ | refine blk_drew ?_ | refine blk_alloc ?_ _)); exact BK426.out) hb); have n3_ := Aside0.mk (below_step bA hb); clear HO424; clear BK426; clear HB; have HO424 := n0_; have HO429 := n1_; have BK426 := n2_; have HB := n3_; clear n0_ n1_ n2_ n3_; clear hb ho19) | ((with_reducible refine gate_callee (f:=7) rfl ?_); refine goesL_ (some 31) rfl rfl Try.func7 (by kernel_rfl) rfl #[.slice A1 l1.length c1,.int .i64 0,.int .i64 3] rfl mA ?_; (with_reducible refine (laws_at.calls _ _ l1 0 3 t430 _ ?side1 ?side2 A7.out).mono ?_); (case side1 => repeat (first | exact (Kd.C_below HR1.out HB.out) | (with_reducible refine Kd.C_alloc ?_ _) | (with_reducible refine Kd.C_drewN ?_ _) | (with_reducible refine Kd.C_drew ?_))); (case side2 => exact HC1.out); rintro e w' ⟨rfl,⟨nd,rfl⟩⟩; refine ⟨_,rfl,?_⟩; obtain ⟨Ao20,co20,eo20⟩ := Kd.R_slice HO429.out; subst eo20; have p431 : 0 ≤ (t430 : Int) := of_decide_eq_true (by first | (with_reducible assumption) | assumption); have q431 : t430 < (y427.length : Int) := of_decide_eq_true (by first | (with_reducible assumption) | assumption); obtain ⟨ad431,e431,hx431_0⟩ := Kd.at_string (Kd.R_reads' HO429.out).2.2 t430 p431 q431; cases e431; replace p431 := eq_true p431; replace q431 := eq_true q431) | ((with_reducible refine gate_callee (f:=7) rfl ?_); refine goesL_ (some 35) rfl rfl Try.func7 (by kernel_rfl) rfl #[.slice A1 l1.length c1,.int .i64 1,.int .i64 3] rfl mA ?_; (with_reducible refine (laws_at.calls _ _ l1 1 3 t432 _ ?side1 ?side2 A10.out).mono ?_); (case side1 => repeat (first | exact (Kd.C_below HR1.out bA) | (with_reducible refine Kd.C_alloc ?_ _) | (with_reducible refine Kd.C_drewN ?_ _) | (with_reducible refine Kd.C_drew ?_))); (case side2 => exact HC1.out); rintro e w' ⟨rfl,⟨nd,rfl⟩⟩; refine ⟨_,rfl,?_⟩; have hcz21_0 : w18.cell? ⟨gb426,0,none⟩ = some (.slice Ao16 t422.length co16) := (blk_cell BK426.out 0).trans rfl; have hcz21_1 : w18.cell? ⟨gb426,1,none⟩ = some (.int .i64 t425) := (blk_cell BK426.out 1).trans rfl; have hfz21_0 := blk_frozen BK426.out 0; have hfz21_1 := blk_frozen BK426.out 1) | ((with_reducible refine gate_callee (f:=8) rfl ?_); refine goesL_ (some 40) rfl rfl Try.func8 (by kernel_rfl) rfl #[.agg #[.slice Ao16 t422.length co16,.int .i64 t425],.string (rdOf ByteArray.empty y427 t430),.string (⟨#[]⟩ : ByteArray),.int .i64 300] rfl mA ?_; (with_reducible refine (impl_ListKeys.calls kj2 _ _ t422 t425 (rdOf ByteArray.empty y427 t430) (⟨#[]⟩ : ByteArray) 300 t433 t436 _ ?side1 ?side2 A11.out).mono ?_); (case side1 => repeat (first | exact (Kd.R_reads' HO424.out).2.2 | (with_reducible refine Kd.C_alloc ?_ _) | (with_reducible refine Kd.C_drewN ?_ _) | (with_reducible refine Kd.C_drew ?_))); (case side2 => exact (Kd.R_reads' HO424.out).2.1); rintro e w22 ⟨v434,rfl,ho0,hb⟩; refine ⟨_,rfl,?_⟩; have n0_ := Aside0.mk (Kd.R_below (rA HO424.out) hb); have n1_ := Aside0.mk (Kd.R_elder' (rA HO429.out) (Kd.R_base ho0) hb); have n2_ := Aside0.mk (Kd.R_lower (Kd.R_new' ho0 (Kd.R_lt (rA HO429.out))) (below_size bA)); have n3_ := Aside0.mk (blk_below (g:=gb426) (o:=.cells #[.slice Ao16 t422.length co16,.int .i64 t425] 25 (0,0)) (kA BK426.out) hb); have n4_ := Aside0.mk (below_step bA hb); clear HO424; clear HO429; clear BK426; clear HB; have HO424 := n0_; have HO429 := n1_; have HO435 := n2_; have BK426 := n3_; have HB := n4_; clear n0_ n1_ n2_ n3_ n4_; (try clear hb); (try clear hb2); (try clear hk); (try clear hi); (try clear ho0); have hcz23_0 : w22.cell? ⟨gb426,0,none⟩ = some (.slice Ao16 t422.length co16) := (blk_cell BK426.out 0).trans rfl; have hcz23_1 : w22.cell? ⟨gb426,1,none⟩ = some (.int .i64 t425) := (blk_cell BK426.out 1).trans rfl; have hfz23_0 := blk_frozen BK426.out 0; have hfz23_1 := blk_frozen BK426.out 1) | ((with_reducible refine gate_callee (f:=9) rfl ?_); refine goesL_ (some 46) rfl rfl Try.func9 (by kernel_rfl) rfl #[.agg #[.slice Ao16 t422.length co16,.int .i64 t425],.string (rdOf ByteArray.empty y427 t430),.string (⟨#[]⟩ : ByteArray),.int .i64 300] rfl mA ?_; (with_reducible refine (spec_ListKeys.calls kj2 _ _ t422 t425 (rdOf ByteArray.empty y427 t430) (⟨#[]⟩ : ByteArray) 300 t437 t440 _ ?side1 ?side2 A12.out).mono ?_); (case side1 => repeat (first | exact (Kd.R_reads' HO424.out).2.2 | (with_reducible refine Kd.C_alloc ?_ _) | (with_reducible refine Kd.C_drewN ?_ _) | (with_reducible refine Kd.C_drew ?_))); (case side2 => exact (Kd.R_reads' HO424.out).2.1); rintro e w24 ⟨v438,rfl,ho0,hb⟩; refine ⟨_,rfl,?_⟩; have n0_ := Aside0.mk (Kd.R_below (rA HO424.out) hb); have n1_ := Aside0.mk (Kd.R_elder' (rA HO429.out) (Kd.R_base ho0) hb); have n2_ := Aside0.mk (Kd.R_elder' (rA HO435.out) (Kd.R_base ho0) hb); have n3_ := Aside0.mk (Kd.R_lower (Kd.R_new' (Kd.R_new' ho0 (Kd.R_lt (rA HO429.out))) (Kd.R_lt (rA HO435.out))) (below_size bA)); have n4_ := Aside0.mk (blk_below (g:=gb426) (o:=.cells #[.slice Ao16 t422.length co16,.int .i64 t425] 25 (0,0)) (kA BK426.out) hb); have n5_ := Aside0.mk (below_step bA hb); clear HO424; clear HO429; clear HO435; clear BK426; clear HB; have HO424 := n0_; have HO429 := n1_; have HO435 := n2_; have HO439 := n3_; have BK426 := n4_; have HB := n5_; clear n0_ n1_ n2_ n3_ n4_ n5_; (try clear hb); (try clear hb2); (try clear hk); (try clear hi); (try clear ho0)) | ((with_reducible refine gate_dst (N:=49) rfl ?_); (try (refine gate_guard (by rfl) ?_; dsimp only)); refine Kd.R_lit Kd.string _ 9 ?hg (N:=49) ?hd (xs := ([] : List ByteArray)) (inner := []) (ok := fun _ => True) (okp := fun _ => True) ?hr ?hp (fun _ hk => hk) trivial (Below.refl _ _) (Nat.le_refl _) (by simp) ?_; (case hd => rfl); (case hg => rfl); (case hr => first | (go_simp; done) | (go_simp; rfl)); (case hp => exact (Reps.none _ _)); intro v442 w25 ho26 hb hg_ hnew_; clear hg_ hnew_; (first | rw [← Ny441.out] at ho26 | (simp only [Int.reduceToNat] at ho26; rw [← Ny441.out] at ho26)); have n0_ := Aside0.mk (Kd.R_below (rA HO424.out) hb); have n1_ := Aside0.mk (Kd.R_elder' (rA HO429.out) (Kd.R_base ho26) hb); have n2_ := Aside0.mk (Kd.R_elder' (rA HO435.out) (Kd.R_base ho26) hb); have n3_ := Aside0.mk (Kd.R_elder' (rA HO439.out) (Kd.R_base ho26) hb); have n4_ := Aside0.mk (Kd.R_lower (Kd.R_new' (Kd.R_new' (Kd.R_new' ho26 (Kd.R_lt (rA HO429.out))) (Kd.R_lt (rA HO435.out))) (Kd.R_lt (rA HO439.out))) (below_size bA)); have n5_ := Aside0.mk (blk_below (g:=gb426) (o:=.cells #[.slice Ao16 t422.length co16,.int .i64 t425] 25 (0,0)) (kA BK426.out) hb); have n6_ := Aside0.mk (below_step bA hb); clear HO424; clear HO429; clear HO435; clear HO439; clear BK426; clear HB; have HO424 := n0_; have HO429 := n1_; have HO435 := n2_; have HO439 := n3_; have HO443 := n4_; have BK426 := n5_; have HB := n6_; clear n0_ n1_ n2_ n3_ n4_ n5_ n6_; clear hb ho26))
      (try simp only [Act.put,setIfInBounds_toArray,set_cons_zero,set_cons_succ])
      go_cut [12] (fun v12 wc => ∃ (kq : Nat) (x12_12 : List ByteArray),Aside0 (laws_FnList.j3 kq (rdOf ByteArray.empty y427 t430) t433 t436 t437 x12_12 t422 t425 = some r) ∧ Aside0 (kq ≤ kj2) ∧ Aside0 (Kd.R Kd.string 9 wc w.heap.size (fun k_ => some k_ ≠ (v438 : Value).ownBlock ∧ some k_ ≠ (v12 : Value).ownBlock) v434 t433) ∧ Aside0 (Kd.R Kd.string 9 wc w.heap.size (fun k_ => some k_ ≠ (v434 : Value).ownBlock ∧ some k_ ≠ (v12 : Value).ownBlock) v438 t437) ∧ Aside0 (Kd.R Kd.string 9 wc w.heap.size (fun k_ => some k_ ≠ (v434 : Value).ownBlock ∧ some k_ ≠ (v438 : Value).ownBlock) v12 x12_12) ∧ Aside0 (Kd.R k32 32 wc w.heap.size (fun _ => True) (.slice Ao16 t422.length co16) t422) ∧ Aside0 (wc.heap[gb426]? = some (.cells #[(.slice Ao16 t422.length co16),.int .i64 t425] 25 (0,0))) ∧ Aside0 (Below w.heap.size w wc))
      case first =>
       have H := HC13.out
       clear HC13
       have H' := Aside0.mk H
       clear H
       go_wp2
       go_loopg [12,13,14] kj2 (fun kq v12 v13 v14 w' => ∃ (x12_2 : List ByteArray) (x13_2 : ByteArray) (x14_2 : Int),v13 = .string x13_2 ∧ v14 = .int .i64 x14_2 ∧ Aside0 (laws_FnList.l0 kq (rdOf ByteArray.empty y427 t430) (wrap64 (1 + t432)) t433 t436 t437 x12_2 x13_2 x14_2 t422 t425 = some r) ∧ Aside0 (kq ≤ kj2) ∧ Aside0 (Kd.R Kd.string 9 w' w.heap.size (fun k_ => some k_ ≠ (v438 : Value).ownBlock ∧ some k_ ≠ (v12 : Value).ownBlock) v434 t433) ∧ Aside0 (Kd.R Kd.string 9 w' w.heap.size (fun k_ => some k_ ≠ (v434 : Value).ownBlock ∧ some k_ ≠ (v12 : Value).ownBlock) v438 t437) ∧ Aside0 (Kd.R Kd.string 9 w' w.heap.size (fun k_ => some k_ ≠ (v434 : Value).ownBlock ∧ some k_ ≠ (v438 : Value).ownBlock) v12 x12_2) ∧ Aside0 (Kd.R k32 32 w' w.heap.size (fun _ => True) (.slice Ao16 t422.length co16) t422) ∧ Aside0 (w'.heap[gb426]? = some (.cells #[(.slice Ao16 t422.length co16),.int .i64 t425] 25 (0,0))) ∧ Aside0 (Below w.heap.size w w'))
       case atStart => exact ⟨(y441),((⟨#[]⟩ : ByteArray)),(0),(by first | rfl | (simp; done) | (simp [*]; done)),(by first | rfl | (simp; done) | (simp [*]; done)),H',⟨Nat.le_refl _⟩,⟨by (with_reducible repeat (first | apply Kd.R_alloc | apply Kd.R_drewN | apply Kd.R_drew)); exact Kd.R_mono HO435.out (fun _ hk => ⟨hk.1.2,hk.2⟩)⟩,⟨by (with_reducible repeat (first | apply Kd.R_alloc | apply Kd.R_drewN | apply Kd.R_drew)); exact Kd.R_mono HO439.out (fun _ hk => ⟨hk.1.2,hk.2⟩)⟩,⟨by (with_reducible repeat (first | apply Kd.R_alloc | apply Kd.R_drewN | apply Kd.R_drew)); exact Kd.R_mono HO443.out (fun _ hk => ⟨hk.1.2,hk.2⟩)⟩,⟨rA HO424.out⟩,⟨kA BK426.out⟩,⟨bA⟩⟩
       case round =>
        clear H'
        try clear c1
        try clear p2
        try clear c3
        try clear c4
        try clear c4b0
        try clear c4b1
        try clear p4
        try clear q4
        try clear hx4
        try clear c5
        try clear c6
        try clear p6
        try clear c7
        try clear c8
        try clear c8b0
        try clear c9
        try clear c9b0
        try clear hcz17_0
        try clear hcz17_1
        try clear hcz21_0
        try clear hcz21_1
        try clear hcz23_0
        try clear hcz23_1
        try clear hfz17_0
        try clear hfz17_1
        try clear hfz21_0
        try clear hfz21_1
        try clear hfz23_0
        try clear hfz23_1
        try clear hx431_0
        try clear p2
        try clear p431
        try clear q431
        obtain ⟨x12_2,x13_2,x14_2,rfl,rfl,HA,HK2,HO_8,HO_10,HO_12,HO_427000,BK426,HB⟩ := hrel
        cases gk with
        | zero => exact absurd HA.out (by simp [laws_FnList.l0])
        | succ k2 =>
         have H := HA.out
         clear HA
         simp only [laws_FnList.l0] at H
         by_cases c27 : x14_2 ≤ (t422.length : Int)
         ·rw [if_pos c27] at H
          have c27b0 : decide (x14_2 ≤ (t422.length : Int)) = true := decide_eq_true c27
          clear c27
          (first | rw [c27b0] | (simp only [i64_w,i32_w]; rw [c27b0]) | skip)
          replace H := Option.bind_eq_some_iff.mp H
          obtain ⟨⟨t444,t447⟩,A280,H⟩ := H
          try dsimp only at H
          have A28 := Aside0.mk A280
          clear A280
          have HC29 := Aside0.mk H
          clear H
          have hcz30_0 : wr.cell? ⟨gb426,0,none⟩ = some (.slice Ao16 t422.length co16) := (blk_cell BK426.out 0).trans rfl
          have hcz30_1 : wr.cell? ⟨gb426,1,none⟩ = some (.int .i64 t425) := (blk_cell BK426.out 1).trans rfl
          have hfz30_0 := blk_frozen BK426.out 0
          have hfz30_1 := blk_frozen BK426.out 1
          go_upto_region 14 with (first | ((with_reducible refine gate_callee (f:=8) rfl ?_); refine goesL_ (some 62) rfl rfl Try.func8 (by kernel_rfl) rfl #[.agg #[.slice Ao16 t422.length co16,.int .i64 t425],.string (rdOf ByteArray.empty y427 t430),.string x13_2,.int .i64 (wrap64 (1 + t432))] rfl mA ?_; (with_reducible refine (impl_ListKeys.calls k2 _ _ t422 t425 (rdOf ByteArray.empty y427 t430) x13_2 (wrap64 (1 + t432)) t444 t447 _ ?side1 ?side2 A28.out).mono ?_); (case side1 => repeat (first | exact (Kd.R_reads' HO_427000.out).2.2 | (with_reducible refine Kd.C_alloc ?_ _) | (with_reducible refine Kd.C_drewN ?_ _) | (with_reducible refine Kd.C_drew ?_))); (case side2 => exact (Kd.R_reads' HO_427000.out).2.1); rintro e w31 ⟨v445,rfl,ho0,hb⟩; refine ⟨_,rfl,?_⟩; have n0_ := Aside0.mk (Kd.R_elder' (rA HO_8.out) (Kd.R_base ho0) hb); have n1_ := Aside0.mk (Kd.R_elder' (rA HO_10.out) (Kd.R_base ho0) hb); have n2_ := Aside0.mk (Kd.R_elder' (rA HO_12.out) (Kd.R_base ho0) hb); have n3_ := Aside0.mk (Kd.R_below (rA HO_427000.out) hb); have n4_ := Aside0.mk (Kd.R_lower (Kd.R_new' (Kd.R_new' (Kd.R_new' ho0 (Kd.R_lt (rA HO_8.out))) (Kd.R_lt (rA HO_10.out))) (Kd.R_lt (rA HO_12.out))) (below_size bA)); have n5_ := Aside0.mk (blk_below (g:=gb426) (o:=.cells #[.slice Ao16 t422.length co16,.int .i64 t425] 25 (0,0)) (kA BK426.out) hb); have n6_ := Aside0.mk (below_step bA hb); clear HO_8; clear HO_10; clear HO_12; clear HO_427000; clear BK426; clear HB; have HO_8 := n0_; have HO_10 := n1_; have HO_12 := n2_; have HO_427000 := n3_; have HO446 := n4_; have BK426 := n5_; have HB := n6_; clear n0_ n1_ n2_ n3_ n4_ n5_ n6_; (try clear hb); (try clear hb2); (try clear hk); (try clear hi); (try clear ho0)))
          (try simp only [Act.put,setIfInBounds_toArray,set_cons_zero,set_cons_succ])
          go_cut [72] (fun v72 wc => ∃ (kq : Nat) (x72_28 : Bool),v72 = .bool x72_28 ∧ Aside0 (laws_FnList.j2 kq (rdOf ByteArray.empty y427 t430) (wrap64 (1 + t432)) t433 t436 t437 x12_2 x14_2 t444 x72_28 t422 t425 = some r) ∧ Aside0 (kq ≤ k2) ∧ Aside0 (Kd.R Kd.string 9 wc w.heap.size (fun k_ => some k_ ≠ (v438 : Value).ownBlock ∧ some k_ ≠ (u12 : Value).ownBlock ∧ some k_ ≠ (v445 : Value).ownBlock) v434 t433) ∧ Aside0 (Kd.R Kd.string 9 wc w.heap.size (fun k_ => some k_ ≠ (v434 : Value).ownBlock ∧ some k_ ≠ (u12 : Value).ownBlock ∧ some k_ ≠ (v445 : Value).ownBlock) v438 t437) ∧ Aside0 (Kd.R Kd.string 9 wc w.heap.size (fun k_ => some k_ ≠ (v434 : Value).ownBlock ∧ some k_ ≠ (v438 : Value).ownBlock ∧ some k_ ≠ (v445 : Value).ownBlock) u12 x12_2) ∧ Aside0 (Kd.R Kd.string 9 wc w.heap.size (fun k_ => some k_ ≠ (v434 : Value).ownBlock ∧ some k_ ≠ (v438 : Value).ownBlock ∧ some k_ ≠ (u12 : Value).ownBlock) v445 t444) ∧ Aside0 (Kd.R k32 32 wc w.heap.size (fun _ => True) (.slice Ao16 t422.length co16) t422) ∧ Aside0 (wc.heap[gb426]? = some (.cells #[(.slice Ao16 t422.length co16),.int .i64 t425] 25 (0,0))) ∧ Aside0 (Below w.heap.size w wc))
          case first =>
           have H := HC29.out
           clear HC29
           by_cases c32 : t447 = 0
           ·rw [if_pos c32] at H
            have c32b0 : (t447 == 0) = true := beq_iff_eq.mpr c32
            have c32b1 : (t447 != 0) = false := bne_eq_false_iff_eq.mpr c32
            clear c32
            (first | rw [c32b0] | (simp only [i64_w,i32_w]; rw [c32b0]) | skip)
            have H' := Aside0.mk H
            clear H
            obtain ⟨Ao33,co33,eo33⟩ := Kd.R_slice HO446.out
            subst eo33
            go_wp2
            go_meet
            case rel => exact ⟨_,(decide ((t444.length : Int) > (wrap64 (1 + t432)))),(by first | rfl | (simp; done) | (simp [*]; done)),H',⟨by have := HJ2.out; have := HK2.out; first | omega | exact Nat.le_refl _⟩,⟨by (with_reducible repeat (first | apply Kd.R_alloc | apply Kd.R_drewN | apply Kd.R_drew)); exact Kd.R_mono HO_8.out (fun _ hk => ⟨hk.1.1,⟨hk.1.2,hk.2⟩⟩)⟩,⟨by (with_reducible repeat (first | apply Kd.R_alloc | apply Kd.R_drewN | apply Kd.R_drew)); exact Kd.R_mono HO_10.out (fun _ hk => ⟨hk.1.1,⟨hk.1.2,hk.2⟩⟩)⟩,⟨by (with_reducible repeat (first | apply Kd.R_alloc | apply Kd.R_drewN | apply Kd.R_drew)); exact Kd.R_mono HO_12.out (fun _ hk => ⟨hk.1.1,⟨hk.1.2,hk.2⟩⟩)⟩,⟨by (with_reducible repeat (first | apply Kd.R_alloc | apply Kd.R_drewN | apply Kd.R_drew)); exact Kd.R_mono HO446.out (fun _ hk => ⟨hk.1.1.2,⟨hk.1.2,hk.2⟩⟩)⟩,⟨rA HO_427000.out⟩,⟨kA BK426.out⟩,⟨bA⟩⟩
           ·rw [if_neg c32] at H
            have c32b0 : (t447 == 0) = false := beq_eq_false_iff_ne.mpr c32
            have c32b1 : (t447 != 0) = true := bne_iff_ne.mpr c32
            (first | rw [c32b0] | (simp only [i64_w,i32_w]; rw [c32b0]) | skip)
            have H' := Aside0.mk H
            clear H
            go_wp2
            go_meet
            case rel => exact ⟨_,(true),(by first | rfl | (simp; done) | (simp [*]; done)),H',⟨by have := HJ2.out; have := HK2.out; first | omega | exact Nat.le_refl _⟩,⟨by (with_reducible repeat (first | apply Kd.R_alloc | apply Kd.R_drewN | apply Kd.R_drew)); exact Kd.R_mono HO_8.out (fun _ hk => ⟨hk.1.1,⟨hk.1.2,hk.2⟩⟩)⟩,⟨by (with_reducible repeat (first | apply Kd.R_alloc | apply Kd.R_drewN | apply Kd.R_drew)); exact Kd.R_mono HO_10.out (fun _ hk => ⟨hk.1.1,⟨hk.1.2,hk.2⟩⟩)⟩,⟨by (with_reducible repeat (first | apply Kd.R_alloc | apply Kd.R_drewN | apply Kd.R_drew)); exact Kd.R_mono HO_12.out (fun _ hk => ⟨hk.1.1,⟨hk.1.2,hk.2⟩⟩)⟩,⟨by (with_reducible repeat (first | apply Kd.R_alloc | apply Kd.R_drewN | apply Kd.R_drew)); exact Kd.R_mono HO446.out (fun _ hk => ⟨hk.1.1.2,⟨hk.1.2,hk.2⟩⟩)⟩,⟨rA HO_427000.out⟩,⟨kA BK426.out⟩,⟨bA⟩⟩
          case rest =>
           clear HC29
           try clear c1
           try clear c2
           try clear p2
           try clear c3
           try clear c4
           try clear c4b0
           try clear c4b1
           try clear p4
           try clear q4
           try clear hx4
           try clear c5
           try clear c6
           try clear p6
           try clear c7
           try clear c8
           try clear c8b0
           try clear c9
           try clear c9b0
           try clear c27
           try clear c27b0
           try clear c32
           try clear c32b0
           try clear c32b1
           try clear hcz17_0
           try clear hcz17_1
           try clear hcz21_0
           try clear hcz21_1
           try clear hcz23_0
           try clear hcz23_1
           try clear hcz30_0
           try clear hcz30_1
           try clear hfz17_0
           try clear hfz17_1
           try clear hfz21_0
           try clear hfz21_1
           try clear hfz23_0
           try clear hfz23_1
           try clear hfz30_0
           try clear hfz30_1
           try clear hx431_0
           try clear p2
           try clear p4
           try clear p431
           try clear p6
           try clear q4
           try clear q431
           obtain ⟨kq,x72_28,rfl,HA,HJ28,HO_8,HO_10,HO_12,HO_15,HO_427000,BK426,HB⟩ := hcut
           cases kq with
           | zero => exact absurd HA.out (by simp [laws_FnList.j2])
           | succ kj28 =>
            have H := HA.out
            clear HA
            simp only [laws_FnList.j2] at H
            by_cases c34 : x72_28 = true
            ·subst c34
             rw [if_pos rfl] at H
             exact absurd H (by simp)
            ·replace c34 := Bool.eq_false_iff.mpr c34
             subst c34
             rw [if_neg (show ¬ (false = true) by decide)] at H
             by_cases c35 : (t444.length : Int) = 0
             ·rw [if_pos c35] at H
              have c35b0 : ((t444.length : Int) == 0) = true := beq_iff_eq.mpr c35
              have c35b1 : ((t444.length : Int) != 0) = false := bne_eq_false_iff_eq.mpr c35
              clear c35
              have H' := Aside0.mk H
              clear H
              obtain ⟨Ao36,co36,eo36⟩ := Kd.R_slice HO_15.out
              subst eo36
              go_wp2
              go_meet
              case rel => exact ⟨_,(x12_2),H',⟨by have := HJ2.out; have := HK2.out; have := HJ28.out; first | omega | exact Nat.le_refl _⟩,⟨by (with_reducible repeat (first | apply Kd.R_alloc | apply Kd.R_drewN | apply Kd.R_drew)); exact Kd.R_mono HO_8.out (fun _ hk => ⟨hk.1,hk.2.1⟩)⟩,⟨by (with_reducible repeat (first | apply Kd.R_alloc | apply Kd.R_drewN | apply Kd.R_drew)); exact Kd.R_mono HO_10.out (fun _ hk => ⟨hk.1,hk.2.1⟩)⟩,⟨by (with_reducible repeat (first | apply Kd.R_alloc | apply Kd.R_drewN | apply Kd.R_drew)); exact Kd.R_mono HO_12.out (fun _ hk => ⟨hk.1,hk.2.1⟩)⟩,⟨rA HO_427000.out⟩,⟨kA BK426.out⟩,⟨bA⟩⟩
             ·rw [if_neg c35] at H
              have c35b0 : ((t444.length : Int) == 0) = false := beq_eq_false_iff_ne.mpr c35
              have c35b1 : ((t444.length : Int) != 0) = true := bne_iff_ne.mpr c35
              have c35b2 : ¬ (t444 = []) := fun h_ => c35 (by rw [h_]; rfl)
              by_cases c37 : x12_2.length + t444.length < 8796093022208
              ·rw [if_pos c37] at H
               have LMc37 := Aside0.mk c37
               clear c37
               obtain ⟨y448,hy448⟩ : ∃ y_ : List ByteArray,y_ = (x12_2 ++ t444) := ⟨_,rfl⟩
               replace H : (if 0 ≤ (wrap64 ((t444.length : Int) - 1)) then (if (wrap64 ((t444.length : Int) - 1)) < (t444.length : Int) then (laws_FnList.l0 kj28 (rdOf ByteArray.empty y427 t430) (wrap64 (1 + t432)) t433 t436 t437 y448 (rdOf ByteArray.empty t444 (wrap64 ((t444.length : Int) - 1))) (wrap64 (x14_2 + 1)) t422 t425) else (none)) else (none)) = some r := by first | (rw [hy448]; with_reducible exact H) | (have H2_ := (Option.bind_some _ _).symm.trans H; rw [hy448]; with_reducible exact H2_) | (have H2_ := (Option.bind_some _ _).symm.trans H; with_reducible exact H2_) | with_reducible exact H | (rw [hy448]; exact H) | exact H
               have Ny448 := Aside0.mk hy448
               clear hy448
               obtain ⟨ji38,hji38⟩ : ∃ j_ : Int,(wrap64 ((t444.length : Int) - 1)) = j_ := ⟨_,rfl⟩
               replace H : (if 0 ≤ (ji38) then (if (ji38) < (t444.length : Int) then (laws_FnList.l0 kj28 (rdOf ByteArray.empty y427 t430) (wrap64 (1 + t432)) t433 t436 t437 y448 (rdOf ByteArray.empty t444 (ji38)) (wrap64 (x14_2 + 1)) t422 t425) else (none)) else (none)) = some r := by first | (rw [hji38] at H; exact H) | (simp only [hji38] at H ⊢; exact H)
               have hji38w : (IntKind.i64.wrap ((t444.length : Int) - 1)) = ji38 := (i64_w _).trans hji38
               by_cases c39 : 0 ≤ (ji38)
               ·rw [if_pos c39] at H
                have c39b0 : decide (0 ≤ (ji38)) = true := decide_eq_true c39
                clear c39
                by_cases c40 : (ji38) < (t444.length : Int)
                ·rw [if_pos c40] at H
                 have c40b0 : decide ((ji38) < (t444.length : Int)) = true := decide_eq_true c40
                 clear c40
                 have H' := Aside0.mk H
                 clear H
                 obtain ⟨Ao41,co41,eo41⟩ := Kd.R_slice HO_15.out
                 subst eo41
                 go_wp2_with (first | ((with_reducible refine gate_builtin (b:=.append) (xs := #[.tmp 76,.tmp 77]) rfl ?_); (try (refine gate_guard (by rfl) ?_; dsimp only)); at_builtin; refine Kd.R_append_rows Kd.string (w0 := w) w.heap.size rfl (.tmp 76) (.tmp 77) 27 9 (.string ⟨#[]⟩) 16 rfl Try.underlying27 info9 rfl (by decide) (by omega) u12 x12_2 t444 _ _ _ (fun k_ => some k_ ≠ (v434 : Value).ownBlock ∧ some k_ ≠ (v438 : Value).ownBlock ∧ some k_ ≠ (.slice Ao41 t444.length co41 : Value).ownBlock) (fun _ => False) rfl rfl ?aO ?aR (fun _ _ h => h) (fun _ h => h.elim) ?aF ?aB ?aS ?aL ?_; (case aR => repeat (first | exact (Kd.R_reads' HO_15.out).2.2 | (with_reducible refine Kd.C_alloc ?_ _) | (with_reducible refine Kd.C_drewN ?_ _) | (with_reducible refine Kd.C_drew ?_))); (case aB => exact bA); (case aF => exact (fun k_ hk => ⟨Kd.fresh' (Kd.R_lt (rA HO_8.out)) k_ hk,Kd.fresh' (Kd.R_lt (rA HO_10.out)) k_ hk,Kd.fresh' (Kd.R_lt (rA HO_15.out)) k_ hk⟩)); (case aO => exact (rA HO_12.out)); (case aS => exact (below_size bA)); (case aL => have := LMc37.out; omega); intro v449 w42 ho hb hg hat; rw [← Ny448.out] at ho; have n0_ := Aside0.mk (Kd.R_after (ok := (fun k_ => some k_ ≠ (v438 : Value).ownBlock ∧ some k_ ≠ (.slice Ao41 t444.length co41 : Value).ownBlock)) (by (with_reducible repeat (first | apply Kd.R_alloc | apply Kd.R_drewN | apply Kd.R_drew)); exact Kd.R_mono HO_8.out (fun _ hk => ⟨⟨hk.1,hk.2.2⟩,hk.2.1⟩)) hg hat); have n1_ := Aside0.mk (Kd.R_after (ok := (fun k_ => some k_ ≠ (v434 : Value).ownBlock ∧ some k_ ≠ (.slice Ao41 t444.length co41 : Value).ownBlock)) (by (with_reducible repeat (first | apply Kd.R_alloc | apply Kd.R_drewN | apply Kd.R_drew)); exact Kd.R_mono HO_10.out (fun _ hk => ⟨⟨hk.1,hk.2.2⟩,hk.2.1⟩)) hg hat); have n2_ := Aside0.mk (Kd.R_after (ok := (fun k_ => some k_ ≠ (v434 : Value).ownBlock ∧ some k_ ≠ (v438 : Value).ownBlock)) (by (with_reducible repeat (first | apply Kd.R_alloc | apply Kd.R_drewN | apply Kd.R_drew)); exact Kd.R_mono HO_15.out (fun _ hk => ⟨⟨hk.1,hk.2.1⟩,hk.2.2⟩)) hg hat); have n3_ := Aside0.mk (Kd.R_over' (rA HO_427000.out) (Kd.R_typed (rA HO_12.out)) (by decide) hg); have n4_ := Aside0.mk (blk_grown (g:=gb426) (o:=.cells #[.slice Ao16 t422.length co16,.int .i64 t425] 25 (0,0)) (kA BK426.out) hg (Kd.R_ne HO_12.out BK426.out (by decide))); have n5_ := Aside0.mk (hb); have n6_ := Aside0.mk (ho); clear HO_8; clear HO_10; clear HO_15; clear HO_427000; clear BK426; clear HB; clear HO_12; have HO_8 := n0_; have HO_10 := n1_; have HO_15 := n2_; have HO_427000 := n3_; have BK426 := n4_; have HB := n5_; have HO450 := n6_; clear n0_ n1_ n2_ n3_ n4_ n5_ n6_; clear ho hb hg hat; have p451 : 0 ≤ ((ji38) : Int) := of_decide_eq_true (by first | (with_reducible assumption) | assumption); have q451 : (ji38) < (t444.length : Int) := of_decide_eq_true (by first | (with_reducible assumption) | assumption); obtain ⟨ad451,e451,hx451_0⟩ := Kd.at_string (Kd.R_reads' HO_15.out).2.2 (ji38) p451 q451; cases e451; replace p451 := eq_true p451; replace q451 := eq_true q451))
                 go_roundg kj28
                 case measure => have := HJ2.out; have := HK2.out; have := HJ28.out; omega
                 case rel => exact ⟨(y448),(rdOf ByteArray.empty t444 (ji38)),(wrap64 (x14_2 + 1)),(by first | rfl | (simp; done) | (simp only [← hji38] <;> (first | rfl | simp)) | (simp [*]; done)),(by first | rfl | (simp; done) | (simp [*]; done)),H',⟨by have := HJ2.out; have := HK2.out; have := HJ28.out; omega⟩,⟨by (with_reducible repeat (first | apply Kd.R_alloc | apply Kd.R_drewN | apply Kd.R_drew)); exact Kd.R_mono HO_8.out (fun _ hk => ⟨hk.1.1,hk.2⟩)⟩,⟨by (with_reducible repeat (first | apply Kd.R_alloc | apply Kd.R_drewN | apply Kd.R_drew)); exact Kd.R_mono HO_10.out (fun _ hk => ⟨hk.1.1,hk.2⟩)⟩,⟨by (with_reducible repeat (first | apply Kd.R_alloc | apply Kd.R_drewN | apply Kd.R_drew)); exact Kd.R_mono HO450.out (fun _ hk => ⟨hk.1,hk.2.1⟩)⟩,⟨rA HO_427000.out⟩,⟨kA BK426.out⟩,⟨bA⟩⟩
                ·rw [if_neg c40] at H
                 exact absurd H (by simp)
               ·rw [if_neg c39] at H
                exact absurd H (by simp)
              ·rw [if_neg c37] at H
               exact absurd H (by simp)
         ·rw [if_neg c27] at H
          have c27b0 : decide (x14_2 ≤ (t422.length : Int)) = false := decide_eq_false c27
          clear c27
          (first | rw [c27b0] | (simp only [i64_w,i32_w]; rw [c27b0]) | skip)
          have H' := Aside0.mk H
          clear H
          have hcz43_0 : wr.cell? ⟨gb426,0,none⟩ = some (.slice Ao16 t422.length co16) := (blk_cell BK426.out 0).trans rfl
          have hcz43_1 : wr.cell? ⟨gb426,1,none⟩ = some (.int .i64 t425) := (blk_cell BK426.out 1).trans rfl
          have hfz43_0 := blk_frozen BK426.out 0
          have hfz43_1 := blk_frozen BK426.out 1
          go_wp2
          go_meet
          case rel => exact ⟨_,(x12_2),H',⟨by have := HJ2.out; have := HK2.out; first | omega | exact Nat.le_refl _⟩,⟨rA HO_8.out⟩,⟨rA HO_10.out⟩,⟨rA HO_12.out⟩,⟨rA HO_427000.out⟩,⟨kA BK426.out⟩,⟨bA⟩⟩
      case rest =>
       clear HC13
       try clear c1
       try clear c2
       try clear p2
       try clear c3
       try clear c4
       try clear c4b0
       try clear c4b1
       try clear p4
       try clear q4
       try clear hx4
       try clear c5
       try clear c6
       try clear p6
       try clear c7
       try clear c8
       try clear c8b0
       try clear c9
       try clear c9b0
       try clear c27
       try clear c27b0
       try clear c32
       try clear c32b0
       try clear c32b1
       try clear c34
       try clear c35
       try clear c35b0
       try clear c35b1
       try clear c35b2
       try clear c37
       try clear c39
       try clear c39b0
       try clear c40
       try clear c40b0
       try clear p43
       try clear q43
       try clear hx43
       try clear hcz17_0
       try clear hcz17_1
       try clear hcz21_0
       try clear hcz21_1
       try clear hcz23_0
       try clear hcz23_1
       try clear hcz30_0
       try clear hcz30_1
       try clear hcz43_0
       try clear hcz43_1
       try clear hfz17_0
       try clear hfz17_1
       try clear hfz21_0
       try clear hfz21_1
       try clear hfz23_0
       try clear hfz23_1
       try clear hfz30_0
       try clear hfz30_1
       try clear hfz43_0
       try clear hfz43_1
       try clear hx431_0
       try clear hx451_0
       try clear p2
       try clear p4
       try clear p431
       try clear p451
       try clear p6
       try clear q4
       try clear q431
       try clear q451
       obtain ⟨kq,x12_12,HA,HJ12,HO_8,HO_10,HO_12,HO_427000,BK426,HB⟩ := hcut
       cases kq with
       | zero => exact absurd HA.out (by simp [laws_FnList.j3])
       | succ kj12 =>
        have H := HA.out
        clear HA
        simp only [laws_FnList.j3] at H
        have H' := Aside0.mk H
        clear H
        go_wp2
        go_loopg [17,18] kj12 (fun kq v17 v18 w' => ∃ (x17_3 : Int) (x18_3 : Int),v17 = .int .i64 x17_3 ∧ v18 = .int .i64 x18_3 ∧ Aside0 (laws_FnList.l1 kq (rdOf ByteArray.empty y427 t430) t433 t436 t437 x12_12 x17_3 x18_3 t422 t425 = some r) ∧ Aside0 (kq ≤ kj12) ∧ Aside0 (Kd.R Kd.string 9 w' w.heap.size (fun k_ => some k_ ≠ (v438 : Value).ownBlock ∧ some k_ ≠ (u12 : Value).ownBlock) v434 t433) ∧ Aside0 (Kd.R Kd.string 9 w' w.heap.size (fun k_ => some k_ ≠ (v434 : Value).ownBlock ∧ some k_ ≠ (u12 : Value).ownBlock) v438 t437) ∧ Aside0 (Kd.R Kd.string 9 w' w.heap.size (fun k_ => some k_ ≠ (v434 : Value).ownBlock ∧ some k_ ≠ (v438 : Value).ownBlock) u12 x12_12) ∧ Aside0 (Kd.R k32 32 w' w.heap.size (fun _ => True) (.slice Ao16 t422.length co16) t422) ∧ Aside0 (w'.heap[gb426]? = some (.cells #[(.slice Ao16 t422.length co16),.int .i64 t425] 25 (0,0))) ∧ Aside0 (Below w.heap.size w w'))
        case atStart => exact ⟨(0),(0),(by first | rfl | (simp; done) | (simp [*]; done)),(by first | rfl | (simp; done) | (simp [*]; done)),H',⟨Nat.le_refl _⟩,⟨rA HO_8.out⟩,⟨rA HO_10.out⟩,⟨rA HO_12.out⟩,⟨rA HO_427000.out⟩,⟨kA BK426.out⟩,⟨bA⟩⟩
        case round =>
         clear H'
         try clear c1
         try clear c2
         try clear p2
         try clear c3
         try clear c4
         try clear c4b0
         try clear c4b1
         try clear p4
         try clear q4
         try clear hx4
         try clear c5
         try clear c6
         try clear p6
         try clear c7
         try clear c8
         try clear c8b0
         try clear c9
         try clear c9b0
         try clear c27
         try clear c27b0
         try clear c32
         try clear c32b0
         try clear c32b1
         try clear c34
         try clear c35
         try clear c35b0
         try clear c35b1
         try clear c35b2
         try clear c37
         try clear c39
         try clear c39b0
         try clear c40
         try clear c40b0
         try clear p43
         try clear q43
         try clear hx43
         try clear hcz17_0
         try clear hcz17_1
         try clear hcz21_0
         try clear hcz21_1
         try clear hcz23_0
         try clear hcz23_1
         try clear hcz30_0
         try clear hcz30_1
         try clear hcz43_0
         try clear hcz43_1
         try clear hfz17_0
         try clear hfz17_1
         try clear hfz21_0
         try clear hfz21_1
         try clear hfz23_0
         try clear hfz23_1
         try clear hfz30_0
         try clear hfz30_1
         try clear hfz43_0
         try clear hfz43_1
         try clear hx431_0
         try clear hx451_0
         try clear p2
         try clear p4
         try clear p43
         try clear p431
         try clear p451
         try clear p6
         try clear q4
         try clear q43
         try clear q431
         try clear q451
         obtain ⟨x17_3,x18_3,rfl,rfl,HA,HK3,HO_8,HO_10,HO_12,HO_427000,BK426,HB⟩ := hrel
         cases gk with
         | zero => exact absurd HA.out (by simp [laws_FnList.l1])
         | succ k3 =>
          have H := HA.out
          clear HA
          simp only [laws_FnList.l1] at H
          by_cases c44 : x18_3 < (t422.length : Int)
          ·rw [if_pos c44] at H
           have c44b0 : decide (x18_3 < (t422.length : Int)) = true := decide_eq_true c44
           clear c44
           by_cases c45 : 0 ≤ x18_3
           ·rw [if_pos c45] at H
            have c45b0 : decide (0 ≤ x18_3) = true := decide_eq_true c45
            clear c45
            by_cases c46 : (((rd_T32 t422 x18_3).f0).size : Int) ≥ ((rdOf ByteArray.empty y427 t430).size : Int)
            ·rw [if_pos c46] at H
             have c46b0 : decide (((rdOf ByteArray.empty y427 t430).size : Int) ≤ (((rd_T32 t422 x18_3).f0).size : Int)) = true := decide_eq_true c46
             have c46b1 : decide ((rdOf ByteArray.empty y427 t430).size ≤ ((rd_T32 t422 x18_3).f0).size) = true := decide_eq_true (Int.ofNat_le.mp c46)
             clear c46
             by_cases c47 : 0 ≤ ((rdOf ByteArray.empty y427 t430).size : Int)
             ·rw [if_pos c47] at H
              have c47b0 := eq_true c47
              have c47b1 : decide (0 ≤ ((rdOf ByteArray.empty y427 t430).size : Int)) = true := decide_eq_true c47
              clear c47
              by_cases c48 : ((rdOf ByteArray.empty y427 t430).size : Int) ≤ (((rd_T32 t422 x18_3).f0).size : Int)
              ·rw [if_pos c48] at H
               have c48b0 := eq_true c48
               have c48b1 : decide (((rdOf ByteArray.empty y427 t430).size : Int) ≤ (((rd_T32 t422 x18_3).f0).size : Int)) = true := decide_eq_true c48
               clear c48
               by_cases c49 : (((rd_T32 t422 x18_3).f0).extract 0 (((rdOf ByteArray.empty y427 t430).size : Int) : Int).toNat).toList = (rdOf ByteArray.empty y427 t430).toList
               ·rw [if_pos c49] at H
                have c49b0 : ((((rd_T32 t422 x18_3).f0).extract 0 (((rdOf ByteArray.empty y427 t430).size : Int) : Int).toNat).toList == (rdOf ByteArray.empty y427 t430).toList) = true := beq_iff_eq.mpr c49
                (try simp only [Int.toNat_natCast] at c49b0)
                have c49b1 : ((((rd_T32 t422 x18_3).f0).extract 0 (((rdOf ByteArray.empty y427 t430).size : Int) : Int).toNat).toList != (rdOf ByteArray.empty y427 t430).toList) = false := bne_eq_false_iff_eq.mpr c49
                (try simp only [Int.toNat_natCast] at c49b1)
                clear c49
                have H' := Aside0.mk H
                clear H
                have hcz50_0 : wr.cell? ⟨gb426,0,none⟩ = some (.slice Ao16 t422.length co16) := (blk_cell BK426.out 0).trans rfl
                have hcz50_1 : wr.cell? ⟨gb426,1,none⟩ = some (.int .i64 t425) := (blk_cell BK426.out 1).trans rfl
                have hfz50_0 := blk_frozen BK426.out 0
                have hfz50_1 := blk_frozen BK426.out 1
                have p452 : 0 ≤ (x18_3 : Int) := of_decide_eq_true (by first | (with_reducible assumption) | assumption)
                have q452 : x18_3 < (t422.length : Int) := of_decide_eq_true (by first | (with_reducible assumption) | assumption)
                obtain ⟨ad452,e452,hx452_0,hx452_1,hx452_2⟩ := at_T32 (Kd.R_reads' HO_427000.out).2.2 x18_3 p452 q452
                cases e452
                replace p452 := eq_true p452
                replace q452 := eq_true q452
                have p453 : 0 ≤ (x18_3 : Int) := of_decide_eq_true (by first | (with_reducible assumption) | assumption)
                have q453 : x18_3 < (t422.length : Int) := of_decide_eq_true (by first | (with_reducible assumption) | assumption)
                obtain ⟨ad453,e453,hx453_0,hx453_1,hx453_2⟩ := at_T32 (Kd.R_reads' HO_427000.out).2.2 x18_3 p453 q453
                obtain rfl : ad452 = ad453 := (by injection e453)
                replace p453 := eq_true p453
                replace q453 := eq_true q453
                go_wp2
                go_roundg k3
                case measure => have := HJ2.out; have := HJ12.out; have := HK3.out; omega
                case rel => exact ⟨(wrap64 (x17_3 + 1)),(wrap64 (x18_3 + 1)),(by first | rfl | (simp; done) | (simp [*]; done)),(by first | rfl | (simp; done) | (simp [*]; done)),H',⟨by have := HJ2.out; have := HJ12.out; have := HK3.out; omega⟩,⟨rA HO_8.out⟩,⟨rA HO_10.out⟩,⟨rA HO_12.out⟩,⟨rA HO_427000.out⟩,⟨kA BK426.out⟩,⟨bA⟩⟩
               ·rw [if_neg c49] at H
                have c49b0 : ((((rd_T32 t422 x18_3).f0).extract 0 (((rdOf ByteArray.empty y427 t430).size : Int) : Int).toNat).toList == (rdOf ByteArray.empty y427 t430).toList) = false := beq_eq_false_iff_ne.mpr c49
                (try simp only [Int.toNat_natCast] at c49b0)
                have c49b1 : ((((rd_T32 t422 x18_3).f0).extract 0 (((rdOf ByteArray.empty y427 t430).size : Int) : Int).toNat).toList != (rdOf ByteArray.empty y427 t430).toList) = true := bne_iff_ne.mpr c49
                (try simp only [Int.toNat_natCast] at c49b1)
                have H' := Aside0.mk H
                clear H
                have hcz51_0 : wr.cell? ⟨gb426,0,none⟩ = some (.slice Ao16 t422.length co16) := (blk_cell BK426.out 0).trans rfl
                have hcz51_1 : wr.cell? ⟨gb426,1,none⟩ = some (.int .i64 t425) := (blk_cell BK426.out 1).trans rfl
                have hfz51_0 := blk_frozen BK426.out 0
                have hfz51_1 := blk_frozen BK426.out 1
                have p452 : 0 ≤ (x18_3 : Int) := of_decide_eq_true (by first | (with_reducible assumption) | assumption)
                have q452 : x18_3 < (t422.length : Int) := of_decide_eq_true (by first | (with_reducible assumption) | assumption)
                obtain ⟨ad452,e452,hx452_0,hx452_1,hx452_2⟩ := at_T32 (Kd.R_reads' HO_427000.out).2.2 x18_3 p452 q452
                cases e452
                replace p452 := eq_true p452
                replace q452 := eq_true q452
                have p453 : 0 ≤ (x18_3 : Int) := of_decide_eq_true (by first | (with_reducible assumption) | assumption)
                have q453 : x18_3 < (t422.length : Int) := of_decide_eq_true (by first | (with_reducible assumption) | assumption)
                obtain ⟨ad453,e453,hx453_0,hx453_1,hx453_2⟩ := at_T32 (Kd.R_reads' HO_427000.out).2.2 x18_3 p453 q453
                obtain rfl : ad452 = ad453 := (by injection e453)
                replace p453 := eq_true p453
                replace q453 := eq_true q453
                go_wp2
                go_roundg k3
                case measure => have := HJ2.out; have := HJ12.out; have := HK3.out; omega
                case rel => exact ⟨(x17_3),(wrap64 (x18_3 + 1)),(by first | rfl | (simp; done) | (simp [*]; done)),(by first | rfl | (simp; done) | (simp [*]; done)),H',⟨by have := HJ2.out; have := HJ12.out; have := HK3.out; omega⟩,⟨rA HO_8.out⟩,⟨rA HO_10.out⟩,⟨rA HO_12.out⟩,⟨rA HO_427000.out⟩,⟨kA BK426.out⟩,⟨bA⟩⟩
              ·rw [if_neg c48] at H
               exact absurd H (by simp)
             ·rw [if_neg c47] at H
              exact absurd H (by simp)
            ·rw [if_neg c46] at H
             have c46b0 : decide (((rdOf ByteArray.empty y427 t430).size : Int) ≤ (((rd_T32 t422 x18_3).f0).size : Int)) = false := decide_eq_false c46
             have c46b1 : decide ((rdOf ByteArray.empty y427 t430).size ≤ ((rd_T32 t422 x18_3).f0).size) = false := decide_eq_false (fun h => c46 (Int.ofNat_le.mpr h))
             clear c46
             have H' := Aside0.mk H
             clear H
             have hcz52_0 : wr.cell? ⟨gb426,0,none⟩ = some (.slice Ao16 t422.length co16) := (blk_cell BK426.out 0).trans rfl
             have hcz52_1 : wr.cell? ⟨gb426,1,none⟩ = some (.int .i64 t425) := (blk_cell BK426.out 1).trans rfl
             have hfz52_0 := blk_frozen BK426.out 0
             have hfz52_1 := blk_frozen BK426.out 1
             have p452 : 0 ≤ (x18_3 : Int) := of_decide_eq_true (by first | (with_reducible assumption) | assumption)
             have q452 : x18_3 < (t422.length : Int) := of_decide_eq_true (by first | (with_reducible assumption) | assumption)
             obtain ⟨ad452,e452,hx452_0,hx452_1,hx452_2⟩ := at_T32 (Kd.R_reads' HO_427000.out).2.2 x18_3 p452 q452
             cases e452
             replace p452 := eq_true p452
             replace q452 := eq_true q452
             go_wp2
             go_roundg k3
             case measure => have := HJ2.out; have := HJ12.out; have := HK3.out; omega
             case rel => exact ⟨(x17_3),(wrap64 (x18_3 + 1)),(by first | rfl | (simp; done) | (simp [*]; done)),(by first | rfl | (simp; done) | (simp [*]; done)),H',⟨by have := HJ2.out; have := HJ12.out; have := HK3.out; omega⟩,⟨rA HO_8.out⟩,⟨rA HO_10.out⟩,⟨rA HO_12.out⟩,⟨rA HO_427000.out⟩,⟨kA BK426.out⟩,⟨bA⟩⟩
           ·rw [if_neg c45] at H
            exact absurd H (by simp)
          ·rw [if_neg c44] at H
           have c44b0 : decide (x18_3 < (t422.length : Int)) = false := decide_eq_false c44
           clear c44
           by_cases c53 : t436 = 0
           ·rw [if_pos c53] at H
            have c53b0 : (t436 == 0) = true := beq_iff_eq.mpr c53
            have c53b1 : (t436 != 0) = false := bne_eq_false_iff_eq.mpr c53
            clear c53
            replace H := Option.bind_eq_some_iff.mp H
            obtain ⟨t454,A540,H⟩ := H
            try dsimp only at H
            have A54 := Aside0.mk A540
            clear A540
            by_cases c55 : t454 = true
            ·subst c55
             rw [if_pos rfl] at H
             replace H := Option.bind_eq_some_iff.mp H
             obtain ⟨t455,A560,H⟩ := H
             try dsimp only at H
             have A56 := Aside0.mk A560
             clear A560
             by_cases c57 : t455 = true
             ·subst c57
              rw [if_pos rfl] at H
              obtain rfl := Option.some.inj H
              have hcz58_0 : wr.cell? ⟨gb426,0,none⟩ = some (.slice Ao16 t422.length co16) := (blk_cell BK426.out 0).trans rfl
              have hcz58_1 : wr.cell? ⟨gb426,1,none⟩ = some (.int .i64 t425) := (blk_cell BK426.out 1).trans rfl
              have hfz58_0 := blk_frozen BK426.out 0
              have hfz58_1 := blk_frozen BK426.out 1
              obtain ⟨Ao59,co59,eo59⟩ := Kd.R_slice HO_8.out
              subst eo59
              obtain ⟨Ao60,co60,eo60⟩ := Kd.R_slice HO_10.out
              subst eo60
              go_wp2_with (first | (go_at_call 10; (with_reducible refine (laws_sameTexts.calls k3 _ _ t433 _ _ t437 true _ ?side1 ?side2 ?side3 ?side4 A54.out).mono ?_); (case side1 => repeat (first | exact (Kd.R_reads' HO_8.out).2.2 | (with_reducible refine Kd.C_alloc ?_ _) | (with_reducible refine Kd.C_drewN ?_ _) | (with_reducible refine Kd.C_drew ?_))); (case side2 => exact (Kd.R_reads' HO_8.out).2.1); (case side3 => repeat (first | exact (Kd.R_reads' HO_10.out).2.2 | (with_reducible refine Kd.C_alloc ?_ _) | (with_reducible refine Kd.C_drewN ?_ _) | (with_reducible refine Kd.C_drew ?_))); (case side4 => exact (Kd.R_reads' HO_10.out).2.1); rintro e w' ⟨rfl,⟨nd,rfl⟩⟩; obtain ⟨Ao61,co61,eo61⟩ := Kd.R_slice HO_12.out; subst eo61) | (go_at_call 10; (with_reducible refine (laws_sameTexts.calls k3 _ _ t433 _ _ x12_12 true _ ?side1 ?side2 ?side3 ?side4 A56.out).mono ?_); (case side1 => repeat (first | exact (Kd.R_reads' HO_8.out).2.2 | (with_reducible refine Kd.C_alloc ?_ _) | (with_reducible refine Kd.C_drewN ?_ _) | (with_reducible refine Kd.C_drew ?_))); (case side2 => exact (Kd.R_reads' HO_8.out).2.1); (case side3 => repeat (first | exact (Kd.R_reads' HO_12.out).2.2 | (with_reducible refine Kd.C_alloc ?_ _) | (with_reducible refine Kd.C_drewN ?_ _) | (with_reducible refine Kd.C_drew ?_))); (case side4 => exact (Kd.R_reads' HO_12.out).2.1); rintro e w' ⟨rfl,⟨nd,rfl⟩⟩))
              go_ret
              exact ⟨by first | rfl | (simp only [i64_w,i32_w] <;> rfl) | (simp [errW_none,errW_some] <;> rfl) | (simp [*,errW_none,errW_some] <;> rfl),bA⟩
             ·replace c57 := Bool.eq_false_iff.mpr c57
              subst c57
              rw [if_neg (show ¬ (false = true) by decide)] at H
              exact absurd H (by simp)
            ·replace c55 := Bool.eq_false_iff.mpr c55
             subst c55
             rw [if_neg (show ¬ (false = true) by decide)] at H
             exact absurd H (by simp)
           ·rw [if_neg c53] at H
            exact absurd H (by simp)
     ·rw [if_neg c9] at H
      exact absurd H (by simp)
    ·rw [if_neg c8] at H
     exact absurd H (by simp)

end Go.Proofs.Ytgkfemnfbkgeiaa.XFnList
