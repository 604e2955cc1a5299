-- Printed by this session's own program wip/tools/xprint.py, which widens the kit's print. Not trusted: Lean checks it.
import Derived.Test.YtfondhlknkhmmaaGreatDoorXFnExactOrphansOfx0
import Derived.Test.YtfondhlknkhmmaaGreatDoorXFnExactOrphansOfx1
namespace Go.Proofs.YtfondhlknkhmmaaGreatDoor.XFnExactOrphansOf
open List (setIfInBounds_toArray set_cons_zero set_cons_succ)
open Go.RowKit Go.Proofs.YtfondhlknkhmmaaGreatDoorW.PrintWords Go.Proofs.YtfondhlknkhmmaaGreatDoorW.PrintLast Go.Proofs.YtfondhlknkhmmaaGreatDoorW.PrintMore
attribute [local go_sem] max2_int min2_int max_two min_two max_three min_three max_four min_four   -- for this text's walks alone
set_option linter.unusedVariables false
set_option linter.unusedSimpArgs false

/-! ### spec_l03KeyOK: function 54 -/
def spec_l03KeyOK.f (a0 : Int) (a1 : Int) (a2 : Int) : Option (Bool) := (spec_l01In.f a0 0 2).bind fun t121 => (if t121 = true then ((spec_l01In.f a1 0 999999).bind fun t122 => (if t122 = true then ((spec_l01In.f a2 0 999999).bind fun t123 => (some t123)) else (some false))) else (some false))
set_option maxHeartbeats 8000000 in
set_option maxRecDepth 100000 in
theorem spec_l03KeyOK.calls (a0 : Int) (a1 : Int) (a2 : Int) (r : Bool) (w : World) (h : spec_l03KeyOK.f a0 a1 a2 = some r) :
  Calls Tryz.prog 54 #[.int .i64 a0,.int .i64 a1,.int .i64 a2] w fun e w' => e = .returned (.bool r) ∧ Drawn0 w w' := by
 have H : ((spec_l01In.f a0 0 2).bind fun t121 => (if t121 = true then ((spec_l01In.f a1 0 999999).bind fun t122 => (if t122 = true then ((spec_l01In.f a2 0 999999).bind fun t123 => (some t123)) else (some false))) else (some false))) = some r := h
 clear h
 replace H := Option.bind_eq_some_iff.mp H
 obtain ⟨t121,A40,H⟩ := H
 try dsimp only at H
 have A4 := Aside0.mk A40
 clear A40
 by_cases c5 : t121 = true
 ·subst c5
  rw [if_pos rfl] at H
  replace H := Option.bind_eq_some_iff.mp H
  obtain ⟨t122,A60,H⟩ := H
  try dsimp only at H
  have A6 := Aside0.mk A60
  clear A60
  by_cases c7 : t122 = true
  ·subst c7
   rw [if_pos rfl] at H
   replace H := Option.bind_eq_some_iff.mp H
   obtain ⟨t123,A80,H⟩ := H
   try dsimp only at H
   have A8 := Aside0.mk A80
   clear A80
   obtain rfl := Option.some.inj H
   go_enter Tryz.func54,Tryz.ntmps54
   go_wp2_with (first | ((with_reducible refine gate_callee (f:=34) rfl ?_); refine goesL_ (some 8) rfl rfl Tryz.func34 (by kernel_rfl) rfl #[.int .i64 a0,.int .i64 0,.int .i64 2] rfl mA ?_; (with_reducible refine (spec_l01In.calls a0 0 2 true _ A4.out).mono ?_); rintro e w' ⟨rfl,⟨nd,rfl⟩⟩; refine ⟨_,rfl,?_⟩) | (go_at_call 34; (with_reducible refine (spec_l01In.calls a1 0 999999 true _ A6.out).mono ?_); rintro e w' ⟨rfl,⟨nd,rfl⟩⟩) | (go_at_call 34; (with_reducible refine (spec_l01In.calls a2 0 999999 t123 _ A8.out).mono ?_); rintro e w' ⟨rfl,⟨nd,rfl⟩⟩))
   go_ret
   exact ⟨by first | rfl | (simp; done) | (simp [*]; done),by repeat (first | exact Drawn0.refl _ | apply Drawn0.step)⟩
  ·replace c7 := Bool.eq_false_iff.mpr c7
   subst c7
   rw [if_neg (show ¬ (false = true) by decide)] at H
   obtain rfl := Option.some.inj H
   go_enter Tryz.func54,Tryz.ntmps54
   go_wp2_with (first | ((with_reducible refine gate_callee (f:=34) rfl ?_); refine goesL_ (some 8) rfl rfl Tryz.func34 (by kernel_rfl) rfl #[.int .i64 a0,.int .i64 0,.int .i64 2] rfl mA ?_; (with_reducible refine (spec_l01In.calls a0 0 2 true _ A4.out).mono ?_); rintro e w' ⟨rfl,⟨nd,rfl⟩⟩; refine ⟨_,rfl,?_⟩) | (go_at_call 34; (with_reducible refine (spec_l01In.calls a1 0 999999 false _ A6.out).mono ?_); rintro e w' ⟨rfl,⟨nd,rfl⟩⟩))
   go_ret
   exact ⟨by first | rfl | (simp; done) | (simp [*]; done),by repeat (first | exact Drawn0.refl _ | apply Drawn0.step)⟩
 ·replace c5 := Bool.eq_false_iff.mpr c5
  subst c5
  rw [if_neg (show ¬ (false = true) by decide)] at H
  obtain rfl := Option.some.inj H
  go_enter Tryz.func54,Tryz.ntmps54
  go_wp2_with (first | ((with_reducible refine gate_callee (f:=34) rfl ?_); refine goesL_ (some 8) rfl rfl Tryz.func34 (by kernel_rfl) rfl #[.int .i64 a0,.int .i64 0,.int .i64 2] rfl mA ?_; (with_reducible refine (spec_l01In.calls a0 0 2 false _ A4.out).mono ?_); rintro e w' ⟨rfl,⟨nd,rfl⟩⟩; refine ⟨_,rfl,?_⟩))
  go_ret
  exact ⟨by first | rfl | (simp; done) | (simp [*]; done),by repeat (first | exact Drawn0.refl _ | apply Drawn0.step)⟩

/-! ### spec_l00Digits: function 72 -/
def spec_l00Digits.f : Nat → Int → Option (ByteArray)
 | 0,_ => none
 | k + 1,a0 => if a0 = (-9223372036854775808) then (some (⟨#[45,57,50,50,51,51,55,50,48,51,54,56,53,52,55,55,53,56,48,56]⟩ : ByteArray)) else (if a0 < 0 then ((spec_l00Digits.f k (wrap64 (-a0))).bind fun t124 => (if 1 + t124.size ≤ 9223372036854775807 then (some ((⟨#[45]⟩ : ByteArray) ++ t124)) else (none))) else (if a0 < 10 then (some (strOfNums (([(wrap64 (48 + a0)) % 256] : List Int)))) else ((spec_l00Digits.f k (wrap64 (Int.tdiv a0 10))).bind fun t128 => ((some (([(wrap64 (48 + (Int.tmod a0 10))) % 256] : List Int) : List Int)).bind fun y129 => (if t128.size + (strOfNums y129).size ≤ 9223372036854775807 then (some (t128 ++ (strOfNums y129))) else (none))))))
theorem spec_l00Digits.mono_l : ∀ k,(∀ y0,LeO (spec_l00Digits.f k y0) (spec_l00Digits.f (k + 1) y0))
 | 0 => fun _ r h => by simp [spec_l00Digits.f] at h
 | k + 1 => by
  have ih0 := spec_l00Digits.mono_l k
  ·intro y0
   unfold spec_l00Digits.f
   repeat' first
   | (with_reducible first | exact ih0 .. | exact LeO.refl _ | exact LeO.none _ | refine LeO.ite ?_ ?_ | refine LeO.bind ?_ (fun _ => ?_))
   | exact LeO.none _ | refine LeO.ite ?_ ?_ | refine LeO.bind ?_ (fun _ => ?_)
theorem spec_l00Digits.mono : ∀ a0 k,LeO (spec_l00Digits.f k a0) (spec_l00Digits.f (k + 1) a0) := by
 intro a0 k
 have ih0 := spec_l00Digits.mono_l k
 exact ih0 a0
def spec_l00Digits.T7 : Bool × List (List Nat × List Nat) := (true,[([],[]),([0],[0]),([1],[1]),([],[]),([3],[3]),([4],[4]),([5],[5]),([6],[6]),([7],[7]),([2,8],[2,8]),([9,2,0,1,2,3,4,5,6,7,8,9],[9])])
def spec_l00Digits.B7 : List Nat := [0,1,3,0,8,24,56,120,248,511,1023]
theorem spec_l00Digits.tab7 : rtab .any (opsOf Tryz.f72 7) = spec_l00Digits.T7 := by kernel_rfl
theorem spec_l00Digits.bits7 : waitsOk spec_l00Digits.T7.2 spec_l00Digits.B7 = true := by kernel_rfl
set_option maxHeartbeats 8000000 in
set_option maxRecDepth 100000 in
theorem spec_l00Digits.calls (k : Nat) : ∀ (a0 : Int) (r : ByteArray) (w : World) (h : spec_l00Digits.f k a0 = some r),
  Calls Tryz.prog 72 #[.int .i64 a0] w fun e w' => e = .returned (.string r) ∧ Below w.heap.size w w' := by
 induction k using Nat.strongRecOn with
 | _ k ih =>
 intro a0 r w h
 cases k with
 | zero => exact absurd h (by simp [spec_l00Digits.f])
 | succ k =>
 simp only [spec_l00Digits.f] at h
 have HB := Aside0.mk (Below.refl w.heap.size w)
 have H : (if a0 = (-9223372036854775808) then (some (⟨#[45,57,50,50,51,51,55,50,48,51,54,56,53,52,55,55,53,56,48,56]⟩ : ByteArray)) else (if a0 < 0 then ((spec_l00Digits.f k (wrap64 (-a0))).bind fun t124 => (if 1 + t124.size ≤ 9223372036854775807 then (some ((⟨#[45]⟩ : ByteArray) ++ t124)) else (none))) else (if a0 < 10 then (some (strOfNums (([(wrap64 (48 + a0)) % 256] : List Int)))) else ((spec_l00Digits.f k (wrap64 (Int.tdiv a0 10))).bind fun t128 => ((some (([(wrap64 (48 + (Int.tmod a0 10))) % 256] : List Int) : List Int)).bind fun y129 => (if t128.size + (strOfNums y129).size ≤ 9223372036854775807 then (some (t128 ++ (strOfNums y129))) else (none))))))) = some r := h
 clear h
 by_cases c2 : a0 = (-9223372036854775808)
 ·rw [if_pos c2] at H
  have c2b0 : (a0 == (-9223372036854775808)) = true := beq_iff_eq.mpr c2
  have c2b1 : (a0 != (-9223372036854775808)) = false := bne_eq_false_iff_eq.mpr c2
  clear c2
  obtain rfl := Option.some.inj H
  go_enter Tryz.func72,Tryz.ntmps72
  go_wp2
  go_ret
  exact ⟨by first | rfl | (simp only [i64_w,i32_w] <;> rfl) | (simp [errW_none,errW_some] <;> rfl) | (simp [*,errW_none,errW_some] <;> rfl),bA⟩
 ·rw [if_neg c2] at H
  have c2b0 : (a0 == (-9223372036854775808)) = false := beq_eq_false_iff_ne.mpr c2
  have c2b1 : (a0 != (-9223372036854775808)) = true := bne_iff_ne.mpr c2
  by_cases c3 : a0 < 0
  ·rw [if_pos c3] at H
   have c3b0 : decide (a0 < 0) = true := decide_eq_true c3
   clear c3
   replace H := Option.bind_eq_some_iff.mp H
   obtain ⟨t124,A40,H⟩ := H
   try dsimp only at H
   have A4 := Aside0.mk A40
   clear A40
   by_cases c5 : 1 + t124.size ≤ 9223372036854775807
   ·rw [if_pos c5] at H
    have c5b0 := eq_true c5
    have c5b1 : decide (1 + t124.size ≤ 9223372036854775807) = true := decide_eq_true c5
    try have c5b2 : (9223372036854775807 < 1 + t124.size) = False := eq_false (Nat.not_lt.2 c5)
    obtain rfl := Option.some.inj H
    go_enter Tryz.func72,Tryz.ntmps72
    go_wp2_with (first | ((with_reducible refine gate_callee (f:=72) rfl ?_); refine goesL_ (some 9) rfl rfl Tryz.func72 (by kernel_rfl) rfl #[.int .i64 (wrap64 (-a0))] rfl mA ?_; (with_reducible refine (ih k (by omega) (wrap64 (-a0)) t124 _ A4.out).mono ?_); rintro e w6 ⟨rfl,hb⟩; refine ⟨_,rfl,?_⟩; have n0_ := Aside0.mk (below_step bA hb); clear HB; have HB := n0_; clear n0_; (try clear hb); (try clear hb2); (try clear hk); (try clear hi)))
    go_ret
    exact ⟨by first | rfl | (simp only [i64_w,i32_w] <;> rfl) | (simp [errW_none,errW_some] <;> rfl) | (simp [*,errW_none,errW_some] <;> rfl),bA⟩
   ·rw [if_neg c5] at H
    exact absurd H (by simp)
  ·rw [if_neg c3] at H
   have c3b0 : decide (a0 < 0) = false := decide_eq_false c3
   clear c3
   by_cases c7 : a0 < 10
   ·rw [if_pos c7] at H
    have c7b0 : decide (a0 < 10) = true := decide_eq_true c7
    clear c7
    obtain ⟨y125,hy125⟩ : ∃ y_ : List Int,y_ = (([(wrap64 (48 + a0)) % 256] : List Int)) := ⟨_,rfl⟩
    replace H : (some (strOfNums y125)) = some r := by first | (rw [hy125]; with_reducible exact H) | (have H2_ := (Option.bind_some _ _).symm.trans H; rw [hy125]; with_reducible exact H2_) | (have H2_ := (Option.bind_some _ _).symm.trans H; with_reducible exact H2_) | with_reducible exact H | (rw [hy125]; exact H) | exact H
    have Ny125 := Aside0.mk hy125
    clear hy125
    obtain rfl := Option.some.inj H
    go_enter Tryz.func72,Tryz.ntmps72
    go_wp2_with (first | ((with_reducible refine gate_dst (N:=16) rfl ?_); refine Kd.R_lit (Kd.int .u8) _ 5 ?hg (N:=16) ?hd (xs := ([(wrap64 (48 + a0)) % 256] : List Int)) (inner := [.int .u8 ((wrap64 (48 + a0)) % 256)]) (ok := fun _ => True) (okp := fun _ => True) ?hr ?hp (fun _ hk => hk) trivial (Below.refl _ _) (Nat.le_refl _) (by simp) ?_; (case hd => rfl); (case hg => rfl); (case hr => first | (go_simp; done) | (go_simp; rfl)); (case hp => exact (Reps.one (show Kd.M (Kd.int .u8) _ _ _ ((wrap64 (48 + a0)) % 256) [.int .u8 ((wrap64 (48 + a0)) % 256)] from rfl) (Reps.none _ _))); intro v126 w8 ho9 hb hg_ hnew_; clear hg_ hnew_; (first | rw [← Ny125.out] at ho9 | (simp only [Int.reduceToNat] at ho9; rw [← Ny125.out] at ho9)); have n0_ := Aside0.mk (Kd.R_lower ho9 (below_size bA)); have n1_ := Aside0.mk (below_step bA hb); clear HB; have HO127 := n0_; have HB := n1_; clear n0_ n1_; clear hb ho9; have hcv10 := own_string (P:=Tryz.prog) Tryz.underlying86 Tryz.underlying5 Tryz.underlying9 (Kd.own_of_R HO127.out)))
    go_ret
    exact ⟨by first | rfl | (simp only [i64_w,i32_w] <;> rfl) | (simp [errW_none,errW_some] <;> rfl) | (simp [*,errW_none,errW_some] <;> rfl),bA⟩
   ·rw [if_neg c7] at H
    have c7b0 : decide (a0 < 10) = false := decide_eq_false c7
    clear c7
    replace H := Option.bind_eq_some_iff.mp H
    obtain ⟨t128,A110,H⟩ := H
    try dsimp only at H
    have A11 := Aside0.mk A110
    clear A110
    obtain ⟨y129,hy129⟩ : ∃ y_ : List Int,y_ = (([(wrap64 (48 + (Int.tmod a0 10))) % 256] : List Int)) := ⟨_,rfl⟩
    replace H : (if t128.size + (strOfNums y129).size ≤ 9223372036854775807 then (some (t128 ++ (strOfNums y129))) else (none)) = some r := by first | (rw [hy129]; with_reducible exact H) | (have H2_ := (Option.bind_some _ _).symm.trans H; rw [hy129]; with_reducible exact H2_) | (have H2_ := (Option.bind_some _ _).symm.trans H; with_reducible exact H2_) | with_reducible exact H | (rw [hy129]; exact H) | exact H
    have Ny129 := Aside0.mk hy129
    clear hy129
    by_cases c12 : t128.size + (strOfNums y129).size ≤ 9223372036854775807
    ·rw [if_pos c12] at H
     have c12b0 := eq_true c12
     have c12b1 : decide (t128.size + (strOfNums y129).size ≤ 9223372036854775807) = true := decide_eq_true c12
     try have c12b2 : (9223372036854775807 < t128.size + (strOfNums y129).size) = False := eq_false (Nat.not_lt.2 c12)
     obtain rfl := Option.some.inj H
     go_enter Tryz.func72,Tryz.ntmps72
     try go_wp2
     have n0_ := Aside0.mk (below_drew1 HB.out)
     clear HB
     have HB := n0_
     clear n0_
     refine start_ (n:=11) (S:=fun w' => True) (ds := []) (bm 11 0) (by kernel_rfl) rfl rfl trivial (fun hHeld => ?_); refine with_tabW spec_l00Digits.tab7 spec_l00Digits.bits7 (fun HT_ HW_ => ?_)
     generalize w.drew = w13 at HB hHeld ⊢
     refine pure_ (i:=0) (N:=some 18) (v:=?_) (a':=?_) (bm 11 1) rfl rfl (any_of HT_.out (by kernel_rfl)) (fun _ _ _ h => h) (Or.inl ⟨by rfl,?_⟩) ?_ ?_
     rotate_left
     ·intro w'
      go_simp
      first | with_reducible rfl | (rw [if_neg (by simp only [ByteArray.size_append,bsz1,bsz2,bsz3,bsz4] at *; omega)] <;> with_reducible rfl)
     rotate_left
     ·simp only [Act.put,setIfInBounds_toArray,set_cons_zero,set_cons_succ,i64_w,i32_w]
      rfl
     refine pure_ (i:=1) (N:=some 19) (v:=?_) (a':=?_) (bm 11 3) rfl rfl (any_of HT_.out (by kernel_rfl)) (fun _ _ _ h => h) (Or.inl ⟨by rfl,?_⟩) ?_ ?_
     rotate_left
     ·intro w'
      go_simp
      first | with_reducible rfl | (rw [if_neg (by simp only [ByteArray.size_append,bsz1,bsz2,bsz3,bsz4] at *; omega)] <;> with_reducible rfl)
     rotate_left
     ·simp only [Act.put,setIfInBounds_toArray,set_cons_zero,set_cons_succ,i64_w,i32_w]
      rfl
     refine pure_ (i:=3) (N:=some 21) (v:=?_) (a':=?_) (bm 11 11) rfl rfl (any_of HT_.out (by kernel_rfl)) (fun _ _ _ h => h) (Or.inl ⟨by rfl,?_⟩) ?_ ?_
     rotate_left
     ·intro w'
      go_simp
      first | with_reducible rfl | (rw [if_neg (by simp only [ByteArray.size_append,bsz1,bsz2,bsz3,bsz4] at *; omega)] <;> with_reducible rfl)
     rotate_left
     ·simp only [Act.put,setIfInBounds_toArray,set_cons_zero,set_cons_succ,i64_w,i32_w]
      rfl
     refine pure_ (i:=4) (N:=some 22) (v:=?_) (a':=?_) (bm 11 27) rfl rfl (any_of HT_.out (by kernel_rfl)) (fun _ _ _ h => h) (Or.inl ⟨by rfl,?_⟩) ?_ ?_
     rotate_left
     ·intro w'
      go_simp
      first | with_reducible rfl | (rw [if_neg (by simp only [ByteArray.size_append,bsz1,bsz2,bsz3,bsz4] at *; omega)] <;> with_reducible rfl)
     rotate_left
     ·simp only [Act.put,setIfInBounds_toArray,set_cons_zero,set_cons_succ,i64_w,i32_w]
      rfl
     refine pure_ (i:=5) (N:=some 23) (v:=?_) (a':=?_) (bm 11 59) rfl rfl (any_of HT_.out (by kernel_rfl)) (fun _ _ _ h => h) (Or.inl ⟨by rfl,?_⟩) ?_ ?_
     rotate_left
     ·intro w'
      go_simp
      first | with_reducible rfl | (rw [if_neg (by simp only [ByteArray.size_append,bsz1,bsz2,bsz3,bsz4] at *; omega)] <;> with_reducible rfl)
     rotate_left
     ·simp only [Act.put,setIfInBounds_toArray,set_cons_zero,set_cons_succ,i64_w,i32_w]
      rfl
     refine pure_ (i:=6) (N:=some 24) (v:=?_) (a':=?_) (bm 11 123) rfl rfl (any_of HT_.out (by kernel_rfl)) (fun _ _ _ h => h) (Or.inl ⟨by rfl,?_⟩) ?_ ?_
     rotate_left
     ·intro w'
      go_simp
      first | with_reducible rfl | (rw [if_neg (by simp only [ByteArray.size_append,bsz1,bsz2,bsz3,bsz4] at *; omega)] <;> with_reducible rfl)
     rotate_left
     ·simp only [Act.put,setIfInBounds_toArray,set_cons_zero,set_cons_succ,i64_w,i32_w]
      rfl
     refine join_ (σ := Value) 2 (bm 11 511) (fun s_ => [(20,.string t128),(25,s_),(26,.string (strOfNums y129))]) (fun s_ w' => (Kd.R (Kd.int .u8) 5 w' w.heap.size (fun _ => True) s_ y129) ∧ (Below w.heap.size w w')) ?_ ?_
     rotate_left
     ·intro hCont
      refine two_ (i:=2) (j:=7) (Ni := some 20) (Nj := some 25) (bm 11 127) (bm 11 251) rfl rfl rfl rfl (two_of HT_.out (by kernel_rfl)) (by decide) (by decide) (fun K hK => ?_) (fun K hK => ?_)
      ·skip
       refine goes_ Tryz.func72 (by kernel_rfl) rfl #[.int .i64 (wrap64 (Int.tdiv a0 10))] (by rfl) rfl rfl mA ?_
       with_reducible refine (ih k (by omega) (wrap64 (Int.tdiv a0 10)) t128 _ A11.out).mono ?_
       rintro e w14 ⟨rfl,hb⟩
       refine ⟨_,rfl,?_⟩
       have n0_ := Aside0.mk (below_step bA hb)
       clear HB
       have HB := n0_
       clear n0_
       (try clear hb)
       (try clear hb2)
       (try clear hk)
       (try clear hi)
       refine hK.out _ _ trivial (fun hHeld => ?_)
       clear hK K
       refine norm_ (a':=?_) ?_ ?_
       rotate_left
       ·show Act.put _ (some 20) _ = _
        simp only [Act.put,setIfInBounds_toArray,set_cons_zero,set_cons_succ,i64_w,i32_w]
        rfl
       refine one_ (i:=7) (N:=some 25) (bm 11 255) rfl rfl (one_of HT_.out (by kernel_rfl)) (by decide) (fun K hK => ?_)
       refine Kd.R_lit_step (Kd.int .u8) _ 5 ?hg (N:=25) ?hd (xs := ([(wrap64 (48 + (Int.tmod a0 10))) % 256] : List Int)) (inner := [.int .u8 ((wrap64 (48 + (Int.tmod a0 10))) % 256)]) (ok := fun _ => True) (okp := fun _ => True) ?hr ?hp (fun _ hk => hk) trivial (Below.refl _ _) (Nat.le_refl _) (by simp) ?_; (case hd => rfl); (case hg => rfl); (case hr => first | (go_simp; done) | (go_simp; rfl)); (case hp => exact (Reps.one (show Kd.M (Kd.int .u8) _ _ _ ((wrap64 (48 + (Int.tmod a0 10))) % 256) [.int .u8 ((wrap64 (48 + (Int.tmod a0 10))) % 256)] from rfl) (Reps.none _ _)))
       intro v130 w15 ho16 hb hg_ hnew_
       clear hg_ hnew_
       (first | rw [← Ny129.out] at ho16 | (simp only [Int.reduceToNat] at ho16; rw [← Ny129.out] at ho16))
       have n0_ := Aside0.mk (Kd.R_lower ho16 (below_size bA))
       have n1_ := Aside0.mk (below_step bA hb)
       clear HB
       have HO131 := n0_
       have HB := n1_
       clear n0_ n1_ hb ho16
       refine hK.out _ _ trivial (fun hHeld => ?_)
       clear hK K
       refine norm_ (a':=?_) ?_ ?_
       rotate_left
       ·show Act.put _ (some 25) _ = _
        simp only [Act.put,setIfInBounds_toArray,set_cons_zero,set_cons_succ,i64_w,i32_w]
        rfl
       refine one_ (i:=8) (N:=some 26) (bm 11 511) rfl rfl (one_of HT_.out (by kernel_rfl)) (by decide) (fun K hK => ?_)
       have hcv17 := own_string (P:=Tryz.prog) Tryz.underlying86 Tryz.underlying5 Tryz.underlying9 (Kd.own_of_R HO131.out)
       refine value_ (w1 := ?_) (v:=?_) (by rfl) rfl ?_ ?_
       rotate_left 2
       ·go_simp
        constructor
        ·rfl
        ·rfl
       clear hcv17
       refine hK.out _ _ trivial (fun hHeld => ?_)
       clear hK K
       refine norm_ (a':=?_) ?_ ?_
       rotate_left
       ·show Act.put _ (some 26) _ = _
        simp only [Act.put,setIfInBounds_toArray,set_cons_zero,set_cons_succ,i64_w,i32_w]
        rfl
       exact norm_ (by simp only [putAll,Act.put,setIfInBounds_toArray,set_cons_zero,set_cons_succ]) (hCont (v130) _ ⟨(rA HO131.out),bA⟩)
      ·skip
       refine Kd.R_lit_step (Kd.int .u8) _ 5 ?hg (N:=25) ?hd (xs := ([(wrap64 (48 + (Int.tmod a0 10))) % 256] : List Int)) (inner := [.int .u8 ((wrap64 (48 + (Int.tmod a0 10))) % 256)]) (ok := fun _ => True) (okp := fun _ => True) ?hr ?hp (fun _ hk => hk) trivial (Below.refl _ _) (Nat.le_refl _) (by simp) ?_; (case hd => rfl); (case hg => rfl); (case hr => first | (go_simp; done) | (go_simp; rfl)); (case hp => exact (Reps.one (show Kd.M (Kd.int .u8) _ _ _ ((wrap64 (48 + (Int.tmod a0 10))) % 256) [.int .u8 ((wrap64 (48 + (Int.tmod a0 10))) % 256)] from rfl) (Reps.none _ _)))
       intro v130 w14 ho15 hb hg_ hnew_
       clear hg_ hnew_
       (first | rw [← Ny129.out] at ho15 | (simp only [Int.reduceToNat] at ho15; rw [← Ny129.out] at ho15))
       have n0_ := Aside0.mk (Kd.R_lower ho15 (below_size bA))
       have n1_ := Aside0.mk (below_step bA hb)
       clear HB
       have HO131 := n0_
       have HB := n1_
       clear n0_ n1_ hb ho15
       refine hK.out _ _ trivial (fun hHeld => ?_)
       clear hK K
       refine norm_ (a':=?_) ?_ ?_
       rotate_left
       ·show Act.put _ (some 25) _ = _
        simp only [Act.put,setIfInBounds_toArray,set_cons_zero,set_cons_succ,i64_w,i32_w]
        rfl
       refine two_ (i:=2) (j:=8) (Ni := some 20) (Nj := some 26) (bm 11 255) (bm 11 507) rfl rfl rfl rfl (two_of HT_.out (by kernel_rfl)) (by decide) (by decide) (fun K hK => ?_) (fun K hK => ?_)
       ·skip
        refine goes_ Tryz.func72 (by kernel_rfl) rfl #[.int .i64 (wrap64 (Int.tdiv a0 10))] (by rfl) rfl rfl mA ?_
        with_reducible refine (ih k (by omega) (wrap64 (Int.tdiv a0 10)) t128 _ A11.out).mono ?_
        rintro e w16 ⟨rfl,hb⟩
        refine ⟨_,rfl,?_⟩
        have n0_ := Aside0.mk (Kd.R_below (rA HO131.out) hb)
        have n1_ := Aside0.mk (below_step bA hb)
        clear HO131 HB
        have HO131 := n0_
        have HB := n1_
        clear n0_ n1_
        (try clear hb)
        (try clear hb2)
        (try clear hk)
        (try clear hi)
        refine hK.out _ _ trivial (fun hHeld => ?_)
        clear hK K
        refine norm_ (a':=?_) ?_ ?_
        rotate_left
        ·show Act.put _ (some 20) _ = _
         simp only [Act.put,setIfInBounds_toArray,set_cons_zero,set_cons_succ,i64_w,i32_w]
         rfl
        refine one_ (i:=8) (N:=some 26) (bm 11 511) rfl rfl (one_of HT_.out (by kernel_rfl)) (by decide) (fun K hK => ?_)
        have hcv17 := own_string (P:=Tryz.prog) Tryz.underlying86 Tryz.underlying5 Tryz.underlying9 (Kd.own_of_R HO131.out)
        refine value_ (w1 := ?_) (v:=?_) (by rfl) rfl ?_ ?_
        rotate_left 2
        ·go_simp
         constructor
         ·rfl
         ·rfl
        clear hcv17
        refine hK.out _ _ trivial (fun hHeld => ?_)
        clear hK K
        refine norm_ (a':=?_) ?_ ?_
        rotate_left
        ·show Act.put _ (some 26) _ = _
         simp only [Act.put,setIfInBounds_toArray,set_cons_zero,set_cons_succ,i64_w,i32_w]
         rfl
        exact norm_ (by simp only [putAll,Act.put,setIfInBounds_toArray,set_cons_zero,set_cons_succ]) (hCont (v130) _ ⟨(rA HO131.out),bA⟩)
       ·skip
        have hcv16 := own_string (P:=Tryz.prog) Tryz.underlying86 Tryz.underlying5 Tryz.underlying9 (Kd.own_of_R HO131.out)
        refine value_ (w1 := ?_) (v:=?_) (by rfl) rfl ?_ ?_
        rotate_left 2
        ·go_simp
         constructor
         ·rfl
         ·rfl
        clear hcv16
        refine hK.out _ _ trivial (fun hHeld => ?_)
        clear hK K
        refine norm_ (a':=?_) ?_ ?_
        rotate_left
        ·show Act.put _ (some 26) _ = _
         simp only [Act.put,setIfInBounds_toArray,set_cons_zero,set_cons_succ,i64_w,i32_w]
         rfl
        refine one_ (i:=2) (N:=some 20) (bm 11 511) rfl rfl (one_of HT_.out (by kernel_rfl)) (by decide) (fun K hK => ?_)
        refine goes_ Tryz.func72 (by kernel_rfl) rfl #[.int .i64 (wrap64 (Int.tdiv a0 10))] (by rfl) rfl rfl mA ?_
        with_reducible refine (ih k (by omega) (wrap64 (Int.tdiv a0 10)) t128 _ A11.out).mono ?_
        rintro e w17 ⟨rfl,hb⟩
        refine ⟨_,rfl,?_⟩
        have n0_ := Aside0.mk (Kd.R_below (rA HO131.out) hb)
        have n1_ := Aside0.mk (below_step bA hb)
        clear HO131 HB
        have HO131 := n0_
        have HB := n1_
        clear n0_ n1_
        (try clear hb)
        (try clear hb2)
        (try clear hk)
        (try clear hi)
        refine hK.out _ _ trivial (fun hHeld => ?_)
        clear hK K
        refine norm_ (a':=?_) ?_ ?_
        rotate_left
        ·show Act.put _ (some 20) _ = _
         simp only [Act.put,setIfInBounds_toArray,set_cons_zero,set_cons_succ,i64_w,i32_w]
         rfl
        exact norm_ (by simp only [putAll,Act.put,setIfInBounds_toArray,set_cons_zero,set_cons_succ]) (hCont (v130) _ ⟨(rA HO131.out),bA⟩)
     rintro v130 w18 ⟨h0_,h1_⟩
     have n0_ : Aside0 (Kd.R (Kd.int .u8) 5 w18 w.heap.size (fun _ => True) v130 y129) := ⟨h0_⟩
     have n1_ : Aside0 (Below w.heap.size w w18) := ⟨h1_⟩
     clear HB h0_ h1_
     have HO131 := n0_
     have HB := n1_
     clear n0_ n1_
     have hHeld := trivial
     refine norm_ (a':=?_) ?_ ?_
     rotate_left
     ·simp only [putAll,Act.put,setIfInBounds_toArray,set_cons_zero,set_cons_succ]
      rfl
     refine pure_ (i:=9) (N:=some 27) (v:=?_) (a':=?_) (bm 11 1023) rfl rfl (any_of HT_.out (by kernel_rfl)) (fun _ _ _ h => h) (Or.inl ⟨by rfl,?_⟩) ?_ ?_
     rotate_left
     ·intro w'
      go_simp
      first | with_reducible rfl | (rw [if_neg (by simp only [ByteArray.size_append,bsz1,bsz2,bsz3,bsz4] at *; omega)] <;> with_reducible rfl)
     rotate_left
     ·simp only [Act.put,setIfInBounds_toArray,set_cons_zero,set_cons_succ,i64_w,i32_w]
      rfl
     refine pure_ (i:=10) (N:=some 2) (v:=?_) (a':=?_) (bm 11 2047) rfl rfl (any_of HT_.out (by kernel_rfl)) (fun _ _ _ h => h) (Or.inl ⟨by rfl,?_⟩) ?_ ?_
     rotate_left
     ·intro w'
      go_simp
      first | with_reducible rfl | (rw [if_neg (by simp only [ByteArray.size_append,bsz1,bsz2,bsz3,bsz4] at *; omega)] <;> with_reducible rfl)
     rotate_left
     ·simp only [Act.put,setIfInBounds_toArray,set_cons_zero,set_cons_succ,i64_w,i32_w]
      rfl
     refine done_ (done_of HT_.out (by kernel_rfl)) ?_
     try go_wp2
     go_ret
     exact ⟨by first | rfl | (simp only [i64_w,i32_w] <;> rfl) | (simp [errW_none,errW_some] <;> rfl) | (simp [*,errW_none,errW_some] <;> rfl),bA⟩
    ·rw [if_neg c12] at H
     exact absurd H (by simp)

/-! ### spec_l03Wide: function 65 -/
def spec_l03Wide.l0 : Nat → Int → ByteArray → Option (ByteArray)
 | 0,_,_ => none
 | k + 1,x1,x5 => if (x5.size : Int) < x1 then (if 1 + x5.size ≤ 9223372036854775807 then (spec_l03Wide.l0 k x1 ((⟨#[48]⟩ : ByteArray) ++ x5)) else (none)) else (some x5)
def spec_l03Wide.f (k : Nat) (a0 : Int) (a1 : Int) : Option (ByteArray) := (spec_l00Digits.f k a0).bind fun t132 => (spec_l03Wide.l0 k a1 t132)
theorem spec_l03Wide.mono_l : ∀ k,(∀ y0 y1,LeO (spec_l03Wide.l0 k y0 y1) (spec_l03Wide.l0 (k + 1) y0 y1))
 | 0 => fun _ _ r h => by simp [spec_l03Wide.l0] at h
 | k + 1 => by
  have ih0 := spec_l03Wide.mono_l k
  ·intro y0 y1
   unfold spec_l03Wide.l0
   repeat' first
   | (with_reducible first | exact ih0 .. | exact spec_l00Digits.mono .. | exact LeO.refl _ | exact LeO.none _ | refine LeO.ite ?_ ?_ | refine LeO.bind ?_ (fun _ => ?_))
   | exact LeO.none _ | refine LeO.ite ?_ ?_ | refine LeO.bind ?_ (fun _ => ?_)
theorem spec_l03Wide.mono : ∀ a0 a1 k,LeO (spec_l03Wide.f k a0 a1) (spec_l03Wide.f (k + 1) a0 a1) := by
 intro a0 a1 k
 have ih0 := spec_l03Wide.mono_l k
 unfold spec_l03Wide.f
 repeat' first
 | (with_reducible first | exact ih0 .. | exact spec_l00Digits.mono .. | exact LeO.refl _ | exact LeO.none _ | refine LeO.ite ?_ ?_ | refine LeO.bind ?_ (fun _ => ?_))
 | exact LeO.none _ | refine LeO.ite ?_ ?_ | refine LeO.bind ?_ (fun _ => ?_)
set_option maxHeartbeats 8000000 in
set_option maxRecDepth 100000 in
theorem spec_l03Wide.calls (k : Nat) (a0 : Int) (a1 : Int) (r : ByteArray) (w : World) (h : spec_l03Wide.f k a0 a1 = some r) :
  Calls Tryz.prog 65 #[.int .i64 a0,.int .i64 a1] w fun e w' => e = .returned (.string r) ∧ Below w.heap.size w w' := by
 have HB := Aside0.mk (Below.refl w.heap.size w)
 have H : ((spec_l00Digits.f k a0).bind fun t132 => (spec_l03Wide.l0 k a1 t132)) = some r := h
 clear h
 replace H := Option.bind_eq_some_iff.mp H
 obtain ⟨t132,A30,H⟩ := H
 try dsimp only at H
 have A3 := Aside0.mk A30
 clear A30
 have H' := Aside0.mk H
 clear H
 go_enter Tryz.func65,Tryz.ntmps65
 go_wp2_with (first | ((with_reducible refine gate_callee (f:=72) rfl ?_); refine goesL_ (some 7) rfl rfl Tryz.func72 (by kernel_rfl) rfl #[.int .i64 a0] rfl mA ?_; (with_reducible refine (spec_l00Digits.calls k a0 t132 _ A3.out).mono ?_); rintro e w4 ⟨rfl,hb⟩; refine ⟨_,rfl,?_⟩; have n0_ := Aside0.mk (below_step bA hb); clear HB; have HB := n0_; clear n0_; (try clear hb); (try clear hb2); (try clear hk); (try clear hi)))
 go_loopg [5] k (fun kq v5 w' => ∃ (x5_1 : ByteArray),v5 = .string x5_1 ∧ Aside0 (spec_l03Wide.l0 kq a1 x5_1 = some r) ∧ Aside0 (kq ≤ k) ∧ Aside0 (Below w.heap.size w w'))
 case atStart => exact ⟨(t132),(by first | rfl | (simp; done) | (simp [*]; done)),H',⟨Nat.le_refl _⟩,⟨bA⟩⟩
 case round =>
  clear H'
  try clear p2
  obtain ⟨x5_1,rfl,HA,HK1,HB⟩ := hrel
  cases gk with
  | zero => exact absurd HA.out (by simp [spec_l03Wide.l0])
  | succ k1 =>
   have H := HA.out
   clear HA
   simp only [spec_l03Wide.l0] at H
   by_cases c5 : (x5_1.size : Int) < a1
   ·rw [if_pos c5] at H
    have c5b0 : decide ((x5_1.size : Int) < a1) = true := decide_eq_true c5
    clear c5
    by_cases c6 : 1 + x5_1.size ≤ 9223372036854775807
    ·rw [if_pos c6] at H
     have c6b0 := eq_true c6
     have c6b1 : decide (1 + x5_1.size ≤ 9223372036854775807) = true := decide_eq_true c6
     try have c6b2 : (9223372036854775807 < 1 + x5_1.size) = False := eq_false (Nat.not_lt.2 c6)
     have H' := Aside0.mk H
     clear H
     go_wp2
     go_roundg k1
     case measure => have := HK1.out; omega
     case rel => exact ⟨((⟨#[48]⟩ : ByteArray) ++ x5_1),(by first | rfl | (simp; done) | (simp [*]; done)),H',⟨by have := HK1.out; omega⟩,⟨bA⟩⟩
    ·rw [if_neg c6] at H
     exact absurd H (by simp)
   ·rw [if_neg c5] at H
    have c5b0 : decide ((x5_1.size : Int) < a1) = false := decide_eq_false c5
    clear c5
    obtain rfl := Option.some.inj H
    go_wp2
    go_ret
    exact ⟨by first | rfl | (simp [errW_none,errW_some] <;> rfl) | (simp [*,errW_none,errW_some] <;> rfl),bA⟩

/-! ### spec_l03Key: function 55 -/
def spec_l03Key.f (k : Nat) (a0 : Int) (a1 : Int) (a2 : Int) : Option (ByteArray) := (some (([(⟨#[114,97,119]⟩ : ByteArray),(⟨#[116,49]⟩ : ByteArray),(⟨#[116,50]⟩ : ByteArray)] : List ByteArray) : List ByteArray)).bind fun y133 => (if 0 ≤ a0 then (if a0 < (y133.length : Int) then (if (rdOf ByteArray.empty y133 a0).size + 1 ≤ 9223372036854775807 then ((spec_l03Wide.f k a1 6).bind fun t137 => (if ((rdOf ByteArray.empty y133 a0) ++ (⟨#[47]⟩ : ByteArray)).size + t137.size ≤ 9223372036854775807 then (if (((rdOf ByteArray.empty y133 a0) ++ (⟨#[47]⟩ : ByteArray)) ++ t137).size + 1 ≤ 9223372036854775807 then ((spec_l03Wide.f k a2 6).bind fun t138 => (if ((((rdOf ByteArray.empty y133 a0) ++ (⟨#[47]⟩ : ByteArray)) ++ t137) ++ (⟨#[45]⟩ : ByteArray)).size + t138.size ≤ 9223372036854775807 then (some (((((rdOf ByteArray.empty y133 a0) ++ (⟨#[47]⟩ : ByteArray)) ++ t137) ++ (⟨#[45]⟩ : ByteArray)) ++ t138)) else (none))) else (none)) else (none))) else (none)) else (none)) else (none))
theorem spec_l03Key.mono : ∀ a0 a1 a2 k,LeO (spec_l03Key.f k a0 a1 a2) (spec_l03Key.f (k + 1) a0 a1 a2) := by
 intro a0 a1 a2 k
 unfold spec_l03Key.f
 repeat' first
 | (with_reducible first | exact spec_l03Wide.mono .. | exact LeO.refl _ | exact LeO.none _ | refine LeO.ite ?_ ?_ | refine LeO.bind ?_ (fun _ => ?_))
 | exact LeO.none _ | refine LeO.ite ?_ ?_ | refine LeO.bind ?_ (fun _ => ?_)
def spec_l03Key.T1 : Bool × List (List Nat × List Nat) := (true,[([],[]),([],[]),([0,1],[0,1]),([2],[2]),([3],[3]),([],[]),([5],[5]),([4,6],[4,6]),([7],[7]),([],[]),([9,6],[9]),([8,10],[8,10]),([11,10,0,1,2,3,4,5,6,7,8,9,10,11],[11])])
def spec_l03Key.B1 : List Nat := [0,0,3,7,15,0,32,127,255,0,608,2047,4095]
theorem spec_l03Key.tab1 : rtab .any (opsOf Tryz.f55 1) = spec_l03Key.T1 := by kernel_rfl
theorem spec_l03Key.bits1 : waitsOk spec_l03Key.T1.2 spec_l03Key.B1 = true := by kernel_rfl
set_option maxHeartbeats 8000000 in
set_option maxRecDepth 100000 in
theorem spec_l03Key.calls (k : Nat) (a0 : Int) (a1 : Int) (a2 : Int) (r : ByteArray) (w : World) (h : spec_l03Key.f k a0 a1 a2 = some r) :
  Calls Tryz.prog 55 #[.int .i64 a0,.int .i64 a1,.int .i64 a2] w fun e w' => e = .returned (.string r) ∧ Below w.heap.size w w' := by
 have HB := Aside0.mk (Below.refl w.heap.size w)
 have H : ((some (([(⟨#[114,97,119]⟩ : ByteArray),(⟨#[116,49]⟩ : ByteArray),(⟨#[116,50]⟩ : ByteArray)] : List ByteArray) : List ByteArray)).bind fun y133 => (if 0 ≤ a0 then (if a0 < (y133.length : Int) then (if (rdOf ByteArray.empty y133 a0).size + 1 ≤ 9223372036854775807 then ((spec_l03Wide.f k a1 6).bind fun t137 => (if ((rdOf ByteArray.empty y133 a0) ++ (⟨#[47]⟩ : ByteArray)).size + t137.size ≤ 9223372036854775807 then (if (((rdOf ByteArray.empty y133 a0) ++ (⟨#[47]⟩ : ByteArray)) ++ t137).size + 1 ≤ 9223372036854775807 then ((spec_l03Wide.f k a2 6).bind fun t138 => (if ((((rdOf ByteArray.empty y133 a0) ++ (⟨#[47]⟩ : ByteArray)) ++ t137) ++ (⟨#[45]⟩ : ByteArray)).size + t138.size ≤ 9223372036854775807 then (some (((((rdOf ByteArray.empty y133 a0) ++ (⟨#[47]⟩ : ByteArray)) ++ t137) ++ (⟨#[45]⟩ : ByteArray)) ++ t138)) else (none))) else (none)) else (none))) else (none)) else (none)) else (none))) = some r := h
 clear h
 obtain ⟨y133,hy133⟩ : ∃ y_ : List ByteArray,y_ = (([(⟨#[114,97,119]⟩ : ByteArray),(⟨#[116,49]⟩ : ByteArray),(⟨#[116,50]⟩ : ByteArray)] : List ByteArray)) := ⟨_,rfl⟩
 replace H : (if 0 ≤ a0 then (if a0 < (y133.length : Int) then (if (rdOf ByteArray.empty y133 a0).size + 1 ≤ 9223372036854775807 then ((spec_l03Wide.f k a1 6).bind fun t137 => (if ((rdOf ByteArray.empty y133 a0) ++ (⟨#[47]⟩ : ByteArray)).size + t137.size ≤ 9223372036854775807 then (if (((rdOf ByteArray.empty y133 a0) ++ (⟨#[47]⟩ : ByteArray)) ++ t137).size + 1 ≤ 9223372036854775807 then ((spec_l03Wide.f k a2 6).bind fun t138 => (if ((((rdOf ByteArray.empty y133 a0) ++ (⟨#[47]⟩ : ByteArray)) ++ t137) ++ (⟨#[45]⟩ : ByteArray)).size + t138.size ≤ 9223372036854775807 then (some (((((rdOf ByteArray.empty y133 a0) ++ (⟨#[47]⟩ : ByteArray)) ++ t137) ++ (⟨#[45]⟩ : ByteArray)) ++ t138)) else (none))) else (none)) else (none))) else (none)) else (none)) else (none)) = some r := by first | (rw [hy133]; with_reducible exact H) | (have H2_ := (Option.bind_some _ _).symm.trans H; rw [hy133]; with_reducible exact H2_) | (have H2_ := (Option.bind_some _ _).symm.trans H; with_reducible exact H2_) | with_reducible exact H | (rw [hy133]; exact H) | exact H
 have Ny133 := Aside0.mk hy133
 clear hy133
 by_cases c4 : 0 ≤ a0
 ·rw [if_pos c4] at H
  have c4b0 : decide (0 ≤ a0) = true := decide_eq_true c4
  clear c4
  by_cases c5 : a0 < (y133.length : Int)
  ·rw [if_pos c5] at H
   have c5b0 : decide (a0 < (y133.length : Int)) = true := decide_eq_true c5
   clear c5
   by_cases c6 : (rdOf ByteArray.empty y133 a0).size + 1 ≤ 9223372036854775807
   ·rw [if_pos c6] at H
    have c6b0 := eq_true c6
    have c6b1 : decide ((rdOf ByteArray.empty y133 a0).size + 1 ≤ 9223372036854775807) = true := decide_eq_true c6
    try have c6b2 : (9223372036854775807 < (rdOf ByteArray.empty y133 a0).size + 1) = False := eq_false (Nat.not_lt.2 c6)
    replace H := Option.bind_eq_some_iff.mp H
    obtain ⟨t137,A70,H⟩ := H
    try dsimp only at H
    have A7 := Aside0.mk A70
    clear A70
    by_cases c8 : ((rdOf ByteArray.empty y133 a0) ++ (⟨#[47]⟩ : ByteArray)).size + t137.size ≤ 9223372036854775807
    ·rw [if_pos c8] at H
     have c8b0 := eq_true c8
     have c8b1 : decide (((rdOf ByteArray.empty y133 a0) ++ (⟨#[47]⟩ : ByteArray)).size + t137.size ≤ 9223372036854775807) = true := decide_eq_true c8
     try have c8b2 : (9223372036854775807 < ((rdOf ByteArray.empty y133 a0) ++ (⟨#[47]⟩ : ByteArray)).size + t137.size) = False := eq_false (Nat.not_lt.2 c8)
     by_cases c9 : (((rdOf ByteArray.empty y133 a0) ++ (⟨#[47]⟩ : ByteArray)) ++ t137).size + 1 ≤ 9223372036854775807
     ·rw [if_pos c9] at H
      have c9b0 := eq_true c9
      have c9b1 : decide ((((rdOf ByteArray.empty y133 a0) ++ (⟨#[47]⟩ : ByteArray)) ++ t137).size + 1 ≤ 9223372036854775807) = true := decide_eq_true c9
      try have c9b2 : (9223372036854775807 < (((rdOf ByteArray.empty y133 a0) ++ (⟨#[47]⟩ : ByteArray)) ++ t137).size + 1) = False := eq_false (Nat.not_lt.2 c9)
      replace H := Option.bind_eq_some_iff.mp H
      obtain ⟨t138,A100,H⟩ := H
      try dsimp only at H
      have A10 := Aside0.mk A100
      clear A100
      by_cases c11 : ((((rdOf ByteArray.empty y133 a0) ++ (⟨#[47]⟩ : ByteArray)) ++ t137) ++ (⟨#[45]⟩ : ByteArray)).size + t138.size ≤ 9223372036854775807
      ·rw [if_pos c11] at H
       have c11b0 := eq_true c11
       have c11b1 : decide (((((rdOf ByteArray.empty y133 a0) ++ (⟨#[47]⟩ : ByteArray)) ++ t137) ++ (⟨#[45]⟩ : ByteArray)).size + t138.size ≤ 9223372036854775807) = true := decide_eq_true c11
       try have c11b2 : (9223372036854775807 < ((((rdOf ByteArray.empty y133 a0) ++ (⟨#[47]⟩ : ByteArray)) ++ t137) ++ (⟨#[45]⟩ : ByteArray)).size + t138.size) = False := eq_false (Nat.not_lt.2 c11)
       obtain rfl := Option.some.inj H
       go_enter Tryz.func55,Tryz.ntmps55
       try go_wp2
       have pi136 : (0 ≤ (a0 : Int)) = True := eq_true (od)
       have qi136 : (a0 < (y133.length : Int)) = True := eq_true (od)
       have n0_ := Aside0.mk (below_drew1 HB.out)
       clear HB
       have HB := n0_
       clear n0_
       refine start_ (n:=13) (S:=fun w' => True) (ds := []) (bm 13 0) (by kernel_rfl) rfl rfl trivial (fun hHeld => ?_); refine with_tabW spec_l03Key.tab1 spec_l03Key.bits1 (fun HT_ HW_ => ?_)
       generalize w.drew = w12 at HB hHeld ⊢
       refine pure_ (i:=1) (N:=some 8) (v:=?_) (a':=?_) (bm 13 2) rfl rfl (any_of HT_.out (by kernel_rfl)) (fun _ _ _ h => h) (Or.inl ⟨by rfl,?_⟩) ?_ ?_
       rotate_left
       ·intro w'
        go_simp
        first | with_reducible rfl | (rw [if_neg (by simp only [ByteArray.size_append,bsz1,bsz2,bsz3,bsz4] at *; omega)] <;> with_reducible rfl)
       rotate_left
       ·simp only [Act.put,setIfInBounds_toArray,set_cons_zero,set_cons_succ,i64_w,i32_w]
        rfl
       refine pure_ (i:=5) (N:=some 12) (v:=?_) (a':=?_) (bm 13 34) rfl rfl (any_of HT_.out (by kernel_rfl)) (fun _ _ _ h => h) (Or.inl ⟨by rfl,?_⟩) ?_ ?_
       rotate_left
       ·intro w'
        go_simp
        first | with_reducible rfl | (rw [if_neg (by simp only [ByteArray.size_append,bsz1,bsz2,bsz3,bsz4] at *; omega)] <;> with_reducible rfl)
       rotate_left
       ·simp only [Act.put,setIfInBounds_toArray,set_cons_zero,set_cons_succ,i64_w,i32_w]
        rfl
       refine pure_ (i:=9) (N:=some 16) (v:=?_) (a':=?_) (bm 13 546) rfl rfl (any_of HT_.out (by kernel_rfl)) (fun _ _ _ h => h) (Or.inl ⟨by rfl,?_⟩) ?_ ?_
       rotate_left
       ·intro w'
        go_simp
        first | with_reducible rfl | (rw [if_neg (by simp only [ByteArray.size_append,bsz1,bsz2,bsz3,bsz4] at *; omega)] <;> with_reducible rfl)
       rotate_left
       ·simp only [Act.put,setIfInBounds_toArray,set_cons_zero,set_cons_succ,i64_w,i32_w]
        rfl
       refine inv_at [0,2,3,4,6,7,8,10,11,12] (fun a0_ b a w' => ∃ (v134 : Value) (adz_v134 : Addr) (m2_ : Value),a = putSel a0_ b [(0,7,v134),(2,9,m2_),(3,10,.string (rdOf ByteArray.empty y133 a0)),(4,11,.string ((rdOf ByteArray.empty y133 a0) ++ (⟨#[47]⟩ : ByteArray))),(6,13,.string t137),(7,14,.string (((rdOf ByteArray.empty y133 a0) ++ (⟨#[47]⟩ : ByteArray)) ++ t137)),(8,15,.string ((((rdOf ByteArray.empty y133 a0) ++ (⟨#[47]⟩ : ByteArray)) ++ t137) ++ (⟨#[45]⟩ : ByteArray))),(10,17,.string t138),(11,18,.string (((((rdOf ByteArray.empty y133 a0) ++ (⟨#[47]⟩ : ByteArray)) ++ t137) ++ (⟨#[45]⟩ : ByteArray)) ++ t138)),(12,6,.string (((((rdOf ByteArray.empty y133 a0) ++ (⟨#[47]⟩ : ByteArray)) ++ t137) ++ (⟨#[45]⟩ : ByteArray)) ++ t138))] ∧ (Below w.heap.size w w') ∧ (b 0 = true → Kd.R Kd.string 9 w' w.heap.size (fun _ => True) v134 y133) ∧ (b 0 = true → ∃ c_,(v134 : Value) = .slice (some adz_v134) y133.length c_) ∧ (b 2 = true → (m2_ : Value) = .pointer (some (adz_v134.add (a0).toNat)))) HT_.out HW_.out (by kernel_rfl) (by kernel_rfl) ?_ ?_ ?_
       ·exact ⟨.bool false,⟨0,0,none⟩,.bool false,by simp only [putSel,Bool.false_eq_true,if_false],HB.out,fun h_ => absurd h_ (by decide),fun h_ => absurd h_ (by decide),fun h_ => absurd h_ (by decide)⟩
       ·skip
        clear HB
        refine steps_cons ?_ ?_
        ·rintro b a w' ⟨v134,adz_v134,m2_,ha,Q_HB,Q_HO135,Q_HA_HO135,Q_X2_⟩ hb_ hon hoff
         refine ⟨_,rfl,fun K hK => ?_⟩
         replace ha := Aside0.mk ha
         have HB := Aside0.mk Q_HB
         refine Kd.R_lit_step Kd.string _ 9 ?hg (N:=7) ?hd (xs := ([(⟨#[114,97,119]⟩ : ByteArray),(⟨#[116,49]⟩ : ByteArray),(⟨#[116,50]⟩ : ByteArray)] : List ByteArray)) (inner := [.string (⟨#[114,97,119]⟩ : ByteArray),.string (⟨#[116,49]⟩ : ByteArray),.string (⟨#[116,50]⟩ : ByteArray)]) (ok := fun _ => True) (okp := fun _ => True) ?hr ?hp (fun _ hk => hk) trivial (Below.refl _ _) (Nat.le_refl _) (by simp) ?_; (case hd => rfl); (case hg => rfl); (case hr => first | (go_simp; done) | (go_simp; rfl)); (case hp => exact (Reps.one (show Kd.M Kd.string _ _ _ (⟨#[114,97,119]⟩ : ByteArray) [.string (⟨#[114,97,119]⟩ : ByteArray)] from rfl) (Reps.one (show Kd.M Kd.string _ _ _ (⟨#[116,49]⟩ : ByteArray) [.string (⟨#[116,49]⟩ : ByteArray)] from rfl) (Reps.one (show Kd.M Kd.string _ _ _ (⟨#[116,50]⟩ : ByteArray) [.string (⟨#[116,50]⟩ : ByteArray)] from rfl) (Reps.none _ _)))))
         intro v134 w13 ho14 hb hg_ hnew_
         clear hg_ hnew_
         (first | rw [← Ny133.out] at ho14 | (simp only [Int.reduceToNat] at ho14; rw [← Ny133.out] at ho14))
         have n0_ := Aside0.mk (Kd.R_lower ho14 (below_size bA))
         have n1_ := Aside0.mk (below_step bA hb)
         clear HB
         have HO135 := n0_
         have HB := n1_
         clear n0_ n1_ hb ho14
         obtain ⟨Ao15,co15,eo15⟩ := Kd.R_slice HO135.out
         subst eo15
         obtain ⟨ado15,fo15,_⟩ := Kd.at_string (Kd.R_reads' HO135.out).2.2 0 (by decide) (by rw [Ny133.out]; simp)
         cases fo15
         refine hK.out _ _ ⟨.slice (some ado15) y133.length co15,ado15,m2_,(by rw [ha.out]; exact putSel_upk 0 hb_ rfl rfl rfl),bA,fun _ => (rA HO135.out),fun _ => ⟨_,rfl⟩,fun h0_ => absurd ((hoff 2 (by kernel_rfl)).symm.trans h0_) (by decide)⟩
        refine steps_cons ?_ ?_
        ·rintro b a w' ⟨v134,adz_v134,m2_,ha,Q_HB,Q_HO135,Q_HA_HO135,Q_X2_⟩ hb_ hon hoff
         refine ⟨_,rfl,fun K hK => ?_⟩
         have e7 : a.tmps[7]? = some (v134) := by rw [ha]; exact putSel_on (e:=(0,7,v134)) 0 rfl rfl (hon 0 (by kernel_rfl)) rfl
         have e8 : a.tmps[8]? = some (.int .i64 a0) := by rw [ha]; exact (putSel_off rfl).trans rfl
         replace ha := Aside0.mk ha
         have HB := Aside0.mk Q_HB
         have HO135 := Aside0.mk (Q_HO135 (hon 0 (by kernel_rfl)))
         have HA_HO135 := Aside0.mk (Q_HA_HO135 (hon 0 (by kernel_rfl)))
         obtain ⟨c_,hv_⟩ := HA_HO135.out
         rw [hv_] at e7
         refine value_ (w1 := w') (v:=.pointer (some (adz_v134.add (a0).toNat))) (by rfl) rfl ?_ ?_
         ·go_simp
          (try simp only [i64_w])
          try rfl
          all_goals (simp only [ByteArray.size_append,bsz1,bsz2,bsz3,bsz4] at *; omega)
         refine hK.out _ _ ⟨v134,adz_v134,(.pointer (some (adz_v134.add (a0).toNat))),(by rw [ha.out]; exact putSel_upk 1 hb_ rfl rfl rfl),Q_HB,Q_HO135,Q_HA_HO135,fun _ => rfl⟩
        refine steps_cons ?_ ?_
        ·rintro b a w' ⟨v134,adz_v134,m2_,ha,Q_HB,Q_HO135,Q_HA_HO135,Q_X2_⟩ hb_ hon hoff
         refine ⟨_,rfl,fun K hK => ?_⟩
         have e9 : a.tmps[9]? = some (m2_) := by rw [ha]; exact putSel_on (e:=(2,9,m2_)) 1 rfl rfl (hon 2 (by kernel_rfl)) rfl
         rw [Q_X2_ (hon 2 (by kernel_rfl))] at e9
         replace ha := Aside0.mk ha
         have HB := Aside0.mk Q_HB
         have HO135 := Aside0.mk (Q_HO135 (hon 0 (by kernel_rfl)))
         have HA_HO135 := Aside0.mk (Q_HA_HO135 (hon 0 (by kernel_rfl)))
         obtain ⟨c_,hv_⟩ := HA_HO135.out
         have hF_ := HO135.out
         rw [hv_] at hF_
         obtain ⟨ad_,ea_,hx_⟩ := Kd.at_string (Kd.R_reads' hF_).2.2 a0 (of_eq_true pi136) (of_eq_true qi136)
         cases ea_
         refine value_ (w1 := w') (v:=.string (rdOf ByteArray.empty y133 a0)) (by rfl) rfl ?_ ?_
         ·go_simp
          (try simp only [i64_w])
          try rfl
          all_goals (simp only [ByteArray.size_append,bsz1,bsz2,bsz3,bsz4] at *; omega)
         refine hK.out _ _ ⟨v134,adz_v134,m2_,(by rw [ha.out]; exact putSel_upk 2 hb_ rfl rfl rfl),Q_HB,Q_HO135,Q_HA_HO135,Q_X2_⟩
        refine steps_cons ?_ ?_
        ·rintro b a w' ⟨v134,adz_v134,m2_,ha,Q_HB,Q_HO135,Q_HA_HO135,Q_X2_⟩ hb_ hon hoff
         refine ⟨_,rfl,fun K hK => ?_⟩
         have e10 : a.tmps[10]? = some (.string (rdOf ByteArray.empty y133 a0)) := by rw [ha]; exact putSel_on (e:=(3,10,.string (rdOf ByteArray.empty y133 a0))) 2 rfl rfl (hon 3 (by kernel_rfl)) rfl
         replace ha := Aside0.mk ha
         have HB := Aside0.mk Q_HB
         have HO135 := Aside0.mk (Q_HO135 (hon 0 (by kernel_rfl)))
         have HA_HO135 := Aside0.mk (Q_HA_HO135 (hon 0 (by kernel_rfl)))
         refine value_ (w1 := w') (v:=.string ((rdOf ByteArray.empty y133 a0) ++ (⟨#[47]⟩ : ByteArray))) (by rfl) rfl ?_ ?_
         ·go_simp
          (try simp only [i64_w])
          try rfl
          all_goals (simp only [ByteArray.size_append,bsz1,bsz2,bsz3,bsz4] at *; omega)
         refine hK.out _ _ ⟨v134,adz_v134,m2_,(by rw [ha.out]; exact putSel_upk 3 hb_ rfl rfl rfl),Q_HB,Q_HO135,Q_HA_HO135,Q_X2_⟩
        refine steps_cons ?_ ?_
        ·rintro b a w' ⟨v134,adz_v134,m2_,ha,Q_HB,Q_HO135,Q_HA_HO135,Q_X2_⟩ hb_ hon hoff
         refine ⟨_,rfl,fun K hK => ?_⟩
         have e12 : a.tmps[12]? = some (.int .i64 a1) := by rw [ha]; exact (putSel_off rfl).trans rfl
         replace ha := Aside0.mk ha
         have HB := Aside0.mk Q_HB
         refine goes_ Tryz.func65 (by kernel_rfl) rfl #[.int .i64 a1,.int .i64 6] (by rfl) rfl rfl (by first | (simp only [List.map_toArray,List.map_cons,List.map_nil,Act.eval,Array.getD_eq_getD_getElem?,Option.getD_some,e12]; done) | (simp only [List.map_toArray,List.map_cons,List.map_nil,Act.eval,Array.getD_eq_getD_getElem?,Option.getD_some,e12]; rfl)) ?_
         with_reducible refine (spec_l03Wide.calls k a1 6 t137 _ A7.out).mono ?_
         rintro e w13 ⟨rfl,hb⟩
         refine ⟨_,rfl,?_⟩
         have n0_ := Aside0.mk (below_step bA hb)
         have z_HO135 := fun (h0_ : b 0 = true) => (show Kd.R Kd.string 9 w13 w.heap.size (fun _ => True) v134 y133 from by first | exact (Kd.R_below (by (with_reducible repeat (first | apply Kd.R_alloc | apply Kd.R_drewN | apply Kd.R_drew)); exact (Q_HO135 h0_)) hb) | exact Kd.R_mono (Kd.R_below (by (with_reducible repeat (first | apply Kd.R_alloc | apply Kd.R_drewN | apply Kd.R_drew)); exact (Q_HO135 h0_)) hb) (fun _ h_ => by first | trivial | exact h_ | exact h_.1))
         clear HB
         have HB := n0_
         clear n0_
         (try clear hb)
         (try clear hb2)
         (try clear hk)
         (try clear hi)
         refine hK.out _ _ ⟨v134,adz_v134,m2_,(by rw [ha.out]; exact putSel_upk 4 hb_ rfl rfl rfl),bA,z_HO135,Q_HA_HO135,Q_X2_⟩
        refine steps_cons ?_ ?_
        ·rintro b a w' ⟨v134,adz_v134,m2_,ha,Q_HB,Q_HO135,Q_HA_HO135,Q_X2_⟩ hb_ hon hoff
         refine ⟨_,rfl,fun K hK => ?_⟩
         have e11 : a.tmps[11]? = some (.string ((rdOf ByteArray.empty y133 a0) ++ (⟨#[47]⟩ : ByteArray))) := by rw [ha]; exact putSel_on (e:=(4,11,.string ((rdOf ByteArray.empty y133 a0) ++ (⟨#[47]⟩ : ByteArray)))) 3 rfl rfl (hon 4 (by kernel_rfl)) rfl
         have e13 : a.tmps[13]? = some (.string t137) := by rw [ha]; exact putSel_on (e:=(6,13,.string t137)) 4 rfl rfl (hon 6 (by kernel_rfl)) rfl
         replace ha := Aside0.mk ha
         have HB := Aside0.mk Q_HB
         have HO135 := Aside0.mk (Q_HO135 (hon 0 (by kernel_rfl)))
         have HA_HO135 := Aside0.mk (Q_HA_HO135 (hon 0 (by kernel_rfl)))
         refine value_ (w1 := w') (v:=.string (((rdOf ByteArray.empty y133 a0) ++ (⟨#[47]⟩ : ByteArray)) ++ t137)) (by rfl) rfl ?_ ?_
         ·go_simp
          (try simp only [i64_w])
          try rfl
          all_goals (simp only [ByteArray.size_append,bsz1,bsz2,bsz3,bsz4] at *; omega)
         refine hK.out _ _ ⟨v134,adz_v134,m2_,(by rw [ha.out]; exact putSel_upk 5 hb_ rfl rfl rfl),Q_HB,Q_HO135,Q_HA_HO135,Q_X2_⟩
        refine steps_cons ?_ ?_
        ·rintro b a w' ⟨v134,adz_v134,m2_,ha,Q_HB,Q_HO135,Q_HA_HO135,Q_X2_⟩ hb_ hon hoff
         refine ⟨_,rfl,fun K hK => ?_⟩
         have e14 : a.tmps[14]? = some (.string (((rdOf ByteArray.empty y133 a0) ++ (⟨#[47]⟩ : ByteArray)) ++ t137)) := by rw [ha]; exact putSel_on (e:=(7,14,.string (((rdOf ByteArray.empty y133 a0) ++ (⟨#[47]⟩ : ByteArray)) ++ t137))) 5 rfl rfl (hon 7 (by kernel_rfl)) rfl
         replace ha := Aside0.mk ha
         have HB := Aside0.mk Q_HB
         have HO135 := Aside0.mk (Q_HO135 (hon 0 (by kernel_rfl)))
         have HA_HO135 := Aside0.mk (Q_HA_HO135 (hon 0 (by kernel_rfl)))
         refine value_ (w1 := w') (v:=.string ((((rdOf ByteArray.empty y133 a0) ++ (⟨#[47]⟩ : ByteArray)) ++ t137) ++ (⟨#[45]⟩ : ByteArray))) (by rfl) rfl ?_ ?_
         ·go_simp
          (try simp only [i64_w])
          try rfl
          all_goals (simp only [ByteArray.size_append,bsz1,bsz2,bsz3,bsz4] at *; omega)
         refine hK.out _ _ ⟨v134,adz_v134,m2_,(by rw [ha.out]; exact putSel_upk 6 hb_ rfl rfl rfl),Q_HB,Q_HO135,Q_HA_HO135,Q_X2_⟩
        refine steps_cons ?_ ?_
        ·rintro b a w' ⟨v134,adz_v134,m2_,ha,Q_HB,Q_HO135,Q_HA_HO135,Q_X2_⟩ hb_ hon hoff
         refine ⟨_,rfl,fun K hK => ?_⟩
         have e16 : a.tmps[16]? = some (.int .i64 a2) := by rw [ha]; exact (putSel_off rfl).trans rfl
         replace ha := Aside0.mk ha
         have HB := Aside0.mk Q_HB
         refine goes_ Tryz.func65 (by kernel_rfl) rfl #[.int .i64 a2,.int .i64 6] (by rfl) rfl rfl (by first | (simp only [List.map_toArray,List.map_cons,List.map_nil,Act.eval,Array.getD_eq_getD_getElem?,Option.getD_some,e16]; done) | (simp only [List.map_toArray,List.map_cons,List.map_nil,Act.eval,Array.getD_eq_getD_getElem?,Option.getD_some,e16]; rfl)) ?_
         with_reducible refine (spec_l03Wide.calls k a2 6 t138 _ A10.out).mono ?_
         rintro e w15 ⟨rfl,hb⟩
         refine ⟨_,rfl,?_⟩
         have n0_ := Aside0.mk (below_step bA hb)
         have z_HO135 := fun (h0_ : b 0 = true) => (show Kd.R Kd.string 9 w15 w.heap.size (fun _ => True) v134 y133 from by first | exact (Kd.R_below (by (with_reducible repeat (first | apply Kd.R_alloc | apply Kd.R_drewN | apply Kd.R_drew)); exact (Q_HO135 h0_)) hb) | exact Kd.R_mono (Kd.R_below (by (with_reducible repeat (first | apply Kd.R_alloc | apply Kd.R_drewN | apply Kd.R_drew)); exact (Q_HO135 h0_)) hb) (fun _ h_ => by first | trivial | exact h_ | exact h_.1))
         clear HB
         have HB := n0_
         clear n0_
         (try clear hb)
         (try clear hb2)
         (try clear hk)
         (try clear hi)
         refine hK.out _ _ ⟨v134,adz_v134,m2_,(by rw [ha.out]; exact putSel_upk 7 hb_ rfl rfl rfl),bA,z_HO135,Q_HA_HO135,Q_X2_⟩
        refine steps_cons ?_ ?_
        ·rintro b a w' ⟨v134,adz_v134,m2_,ha,Q_HB,Q_HO135,Q_HA_HO135,Q_X2_⟩ hb_ hon hoff
         refine ⟨_,rfl,fun K hK => ?_⟩
         have e15 : a.tmps[15]? = some (.string ((((rdOf ByteArray.empty y133 a0) ++ (⟨#[47]⟩ : ByteArray)) ++ t137) ++ (⟨#[45]⟩ : ByteArray))) := by rw [ha]; exact putSel_on (e:=(8,15,.string ((((rdOf ByteArray.empty y133 a0) ++ (⟨#[47]⟩ : ByteArray)) ++ t137) ++ (⟨#[45]⟩ : ByteArray)))) 6 rfl rfl (hon 8 (by kernel_rfl)) rfl
         have e17 : a.tmps[17]? = some (.string t138) := by rw [ha]; exact putSel_on (e:=(10,17,.string t138)) 7 rfl rfl (hon 10 (by kernel_rfl)) rfl
         replace ha := Aside0.mk ha
         have HB := Aside0.mk Q_HB
         have HO135 := Aside0.mk (Q_HO135 (hon 0 (by kernel_rfl)))
         have HA_HO135 := Aside0.mk (Q_HA_HO135 (hon 0 (by kernel_rfl)))
         refine value_ (w1 := w') (v:=.string (((((rdOf ByteArray.empty y133 a0) ++ (⟨#[47]⟩ : ByteArray)) ++ t137) ++ (⟨#[45]⟩ : ByteArray)) ++ t138)) (by rfl) rfl ?_ ?_
         ·go_simp
          (try simp only [i64_w])
          try rfl
          all_goals (simp only [ByteArray.size_append,bsz1,bsz2,bsz3,bsz4] at *; omega)
         refine hK.out _ _ ⟨v134,adz_v134,m2_,(by rw [ha.out]; exact putSel_upk 8 hb_ rfl rfl rfl),Q_HB,Q_HO135,Q_HA_HO135,Q_X2_⟩
        refine steps_cons ?_ ?_
        ·rintro b a w' ⟨v134,adz_v134,m2_,ha,Q_HB,Q_HO135,Q_HA_HO135,Q_X2_⟩ hb_ hon hoff
         refine ⟨_,rfl,fun K hK => ?_⟩
         have e18 : a.tmps[18]? = some (.string (((((rdOf ByteArray.empty y133 a0) ++ (⟨#[47]⟩ : ByteArray)) ++ t137) ++ (⟨#[45]⟩ : ByteArray)) ++ t138)) := by rw [ha]; exact putSel_on (e:=(11,18,.string (((((rdOf ByteArray.empty y133 a0) ++ (⟨#[47]⟩ : ByteArray)) ++ t137) ++ (⟨#[45]⟩ : ByteArray)) ++ t138))) 8 rfl rfl (hon 11 (by kernel_rfl)) rfl
         replace ha := Aside0.mk ha
         have HB := Aside0.mk Q_HB
         have HO135 := Aside0.mk (Q_HO135 (hon 0 (by kernel_rfl)))
         have HA_HO135 := Aside0.mk (Q_HA_HO135 (hon 0 (by kernel_rfl)))
         refine value_ (w1 := w') (v:=.string (((((rdOf ByteArray.empty y133 a0) ++ (⟨#[47]⟩ : ByteArray)) ++ t137) ++ (⟨#[45]⟩ : ByteArray)) ++ t138)) (by rfl) rfl ?_ ?_
         ·go_simp
          (try simp only [i64_w])
          try rfl
          all_goals (simp only [ByteArray.size_append,bsz1,bsz2,bsz3,bsz4] at *; omega)
         refine hK.out _ _ ⟨v134,adz_v134,m2_,(by rw [ha.out]; exact putSel_upk 9 hb_ rfl rfl rfl),Q_HB,Q_HO135,Q_HA_HO135,Q_X2_⟩
        exact steps_nil
       rintro b a w18 hall ⟨v134,adz_v134,m2_,ha,Q_HB,Q_HO135,Q_HA_HO135,Q_X2_⟩
       clear HB
       have hb0_ := hall 0 (by kernel_rfl)
       have hb2_ := hall 2 (by kernel_rfl)
       have hb3_ := hall 3 (by kernel_rfl)
       have hb4_ := hall 4 (by kernel_rfl)
       have hb6_ := hall 6 (by kernel_rfl)
       have hb7_ := hall 7 (by kernel_rfl)
       have hb8_ := hall 8 (by kernel_rfl)
       have hb10_ := hall 10 (by kernel_rfl)
       have hb11_ := hall 11 (by kernel_rfl)
       have hb12_ := hall 12 (by kernel_rfl)
       subst ha
       obtain rfl := Q_X2_ hb2_
       simp only [putSel,hb0_,hb2_,hb3_,hb4_,hb6_,hb7_,hb8_,hb10_,hb11_,hb12_,if_true,Act.put,setIfInBounds_toArray,set_cons_zero,set_cons_succ]
       have HB := Aside0.mk Q_HB
       clear Q_HB
       have HO135 := Aside0.mk (Q_HO135 hb0_)
       clear Q_HO135
       have HA_HO135 := Aside0.mk (Q_HA_HO135 hb0_)
       clear Q_HA_HO135 hall hb0_ hb2_ hb3_ hb4_ hb6_ hb7_ hb8_ hb10_ hb11_ hb12_
       obtain ⟨co19,eo19⟩ := HA_HO135.out
       clear HA_HO135
       subst eo19
       try go_wp2
       go_ret
       exact ⟨by first | rfl | (simp [errW_none,errW_some] <;> rfl) | (simp [*,errW_none,errW_some] <;> rfl),bA⟩
      ·rw [if_neg c11] at H
       exact absurd H (by simp)
     ·rw [if_neg c9] at H
      exact absurd H (by simp)
    ·rw [if_neg c8] at H
     exact absurd H (by simp)
   ·rw [if_neg c6] at H
    exact absurd H (by simp)
  ·rw [if_neg c5] at H
   exact absurd H (by simp)
 ·rw [if_neg c4] at H
  exact absurd H (by simp)

end Go.Proofs.YtfondhlknkhmmaaGreatDoor.XFnExactOrphansOf
