-- Printed by this session's own program wip/tools/xprint.py, which widens the kit's print. Not trusted: Lean checks it.
import Derived.Test.YtleifhnoaaphmaaDoorXFnExactDataKeysx0
import Derived.Test.YtleifhnoaaphmaaDoorXFnExactDataKeysx3
namespace Go.Proofs.YtleifhnoaaphmaaDoor.XFnExactDataKeys
open List (setIfInBounds_toArray set_cons_zero set_cons_succ)
open Go.RowKit Go.Proofs.YtleifhnoaaphmaaDoorW.PrintWords Go.Proofs.YtleifhnoaaphmaaDoorW.PrintLast Go.Proofs.YtleifhnoaaphmaaDoorW.PrintMore
attribute [local go_sem] max2_int min2_int max_two min_two max_three min_three max_four min_four   -- for this text's walks alone
set_option linter.unusedVariables false
set_option linter.unusedSimpArgs false

/-! ### spec_l03Key: function 102 -/
def spec_l03Key.f (k : Nat) (a0 : Int) (a1 : Int) (a2 : Int) : Option (ByteArray) := (some (([(⟨#[114,97,119]⟩ : ByteArray),(⟨#[116,49]⟩ : ByteArray),(⟨#[116,50]⟩ : ByteArray)] : List ByteArray) : List ByteArray)).bind fun y138 => (if 0 ≤ a0 then (if a0 < (y138.length : Int) then (if (rdOf ByteArray.empty y138 a0).size + 1 ≤ 9223372036854775807 then ((spec_l03Wide.f k a1 6).bind fun t142 => (if ((rdOf ByteArray.empty y138 a0) ++ (⟨#[47]⟩ : ByteArray)).size + t142.size ≤ 9223372036854775807 then (if (((rdOf ByteArray.empty y138 a0) ++ (⟨#[47]⟩ : ByteArray)) ++ t142).size + 1 ≤ 9223372036854775807 then ((spec_l03Wide.f k a2 6).bind fun t143 => (if ((((rdOf ByteArray.empty y138 a0) ++ (⟨#[47]⟩ : ByteArray)) ++ t142) ++ (⟨#[45]⟩ : ByteArray)).size + t143.size ≤ 9223372036854775807 then (some (((((rdOf ByteArray.empty y138 a0) ++ (⟨#[47]⟩ : ByteArray)) ++ t142) ++ (⟨#[45]⟩ : ByteArray)) ++ t143)) else (none))) else (none)) else (none))) else (none)) else (none)) else (none))
theorem spec_l03Key.mono : ∀ a0 a1 a2 k,LeO (spec_l03Key.f k a0 a1 a2) (spec_l03Key.f (k + 1) a0 a1 a2) := by
 intro a0 a1 a2 k
 unfold spec_l03Key.f
 repeat' first
   | (with_reducible exact spec_l03Wide.mono _ _ _)
   | (with_reducible exact LeO.refl _)
   | (with_reducible exact LeO.none _)
   | (with_reducible refine LeO.ite ?_ ?_)
   | (with_reducible refine LeO.bind ?_ (fun _ => ?_))
   | exact spec_l03Wide.mono _ _ _
   | exact LeO.none _
   | refine LeO.ite ?_ ?_
   | refine LeO.bind ?_ (fun _ => ?_)
def spec_l03Key.T1 : Bool × List (List Nat × List Nat) := (true,[([],[]),([],[]),([0,1],[0,1]),([2],[2]),([3],[3]),([],[]),([5],[5]),([4,6],[4,6]),([7],[7]),([],[]),([9,6],[9]),([8,10],[8,10]),([11,10,0,1,2,3,4,5,6,7,8,9,10,11],[11])])
def spec_l03Key.B1 : List Nat := [0,0,3,7,15,0,32,127,255,0,608,2047,4095]
theorem spec_l03Key.tab1 : rtab .any (opsOf Tryd.f102 1) = spec_l03Key.T1 := by kernel_rfl
theorem spec_l03Key.bits1 : waitsOk spec_l03Key.T1.2 spec_l03Key.B1 = true := by kernel_rfl
set_option maxHeartbeats 8000000 in
set_option maxRecDepth 100000 in
theorem spec_l03Key.calls (k : Nat) (a0 : Int) (a1 : Int) (a2 : Int) (r : ByteArray) (w : World) (h : spec_l03Key.f k a0 a1 a2 = some r) :
  Calls Tryd.prog 102 #[.int .i64 a0,.int .i64 a1,.int .i64 a2] w fun e w' => e = .returned (.string r) ∧ Below w.heap.size w w' := by
 have HB := Aside0.mk (Below.refl w.heap.size w)
 have H : ((some (([(⟨#[114,97,119]⟩ : ByteArray),(⟨#[116,49]⟩ : ByteArray),(⟨#[116,50]⟩ : ByteArray)] : List ByteArray) : List ByteArray)).bind fun y138 => (if 0 ≤ a0 then (if a0 < (y138.length : Int) then (if (rdOf ByteArray.empty y138 a0).size + 1 ≤ 9223372036854775807 then ((spec_l03Wide.f k a1 6).bind fun t142 => (if ((rdOf ByteArray.empty y138 a0) ++ (⟨#[47]⟩ : ByteArray)).size + t142.size ≤ 9223372036854775807 then (if (((rdOf ByteArray.empty y138 a0) ++ (⟨#[47]⟩ : ByteArray)) ++ t142).size + 1 ≤ 9223372036854775807 then ((spec_l03Wide.f k a2 6).bind fun t143 => (if ((((rdOf ByteArray.empty y138 a0) ++ (⟨#[47]⟩ : ByteArray)) ++ t142) ++ (⟨#[45]⟩ : ByteArray)).size + t143.size ≤ 9223372036854775807 then (some (((((rdOf ByteArray.empty y138 a0) ++ (⟨#[47]⟩ : ByteArray)) ++ t142) ++ (⟨#[45]⟩ : ByteArray)) ++ t143)) else (none))) else (none)) else (none))) else (none)) else (none)) else (none))) = some r := h
 clear h
 obtain ⟨y138,hy138⟩ : ∃ y_ : List ByteArray,y_ = (([(⟨#[114,97,119]⟩ : ByteArray),(⟨#[116,49]⟩ : ByteArray),(⟨#[116,50]⟩ : ByteArray)] : List ByteArray)) := ⟨_,rfl⟩
 replace H : (if 0 ≤ a0 then (if a0 < (y138.length : Int) then (if (rdOf ByteArray.empty y138 a0).size + 1 ≤ 9223372036854775807 then ((spec_l03Wide.f k a1 6).bind fun t142 => (if ((rdOf ByteArray.empty y138 a0) ++ (⟨#[47]⟩ : ByteArray)).size + t142.size ≤ 9223372036854775807 then (if (((rdOf ByteArray.empty y138 a0) ++ (⟨#[47]⟩ : ByteArray)) ++ t142).size + 1 ≤ 9223372036854775807 then ((spec_l03Wide.f k a2 6).bind fun t143 => (if ((((rdOf ByteArray.empty y138 a0) ++ (⟨#[47]⟩ : ByteArray)) ++ t142) ++ (⟨#[45]⟩ : ByteArray)).size + t143.size ≤ 9223372036854775807 then (some (((((rdOf ByteArray.empty y138 a0) ++ (⟨#[47]⟩ : ByteArray)) ++ t142) ++ (⟨#[45]⟩ : ByteArray)) ++ t143)) else (none))) else (none)) else (none))) else (none)) else (none)) else (none)) = some r := by first | (rw [hy138]; with_reducible exact H) | (have H2_ := (Option.bind_some _ _).symm.trans H; rw [hy138]; with_reducible exact H2_) | (have H2_ := (Option.bind_some _ _).symm.trans H; with_reducible exact H2_) | with_reducible exact H | (rw [hy138]; exact H) | exact H
 have Ny138 := Aside0.mk hy138
 clear hy138
 by_cases c4 : 0 ≤ a0
 ·rw [if_pos c4] at H
  have c4b0 : decide (0 ≤ a0) = true := decide_eq_true c4
  clear c4
  by_cases c5 : a0 < (y138.length : Int)
  ·rw [if_pos c5] at H
   have c5b0 : decide (a0 < (y138.length : Int)) = true := decide_eq_true c5
   clear c5
   by_cases c6 : (rdOf ByteArray.empty y138 a0).size + 1 ≤ 9223372036854775807
   ·rw [if_pos c6] at H
    have c6b0 := eq_true c6
    have c6b1 : decide ((rdOf ByteArray.empty y138 a0).size + 1 ≤ 9223372036854775807) = true := decide_eq_true c6
    try have c6b2 : (9223372036854775807 < (rdOf ByteArray.empty y138 a0).size + 1) = False := eq_false (Nat.not_lt.2 c6)
    replace H := Option.bind_eq_some_iff.mp H
    obtain ⟨t142,A70,H⟩ := H
    replace H : (if ((rdOf ByteArray.empty y138 a0) ++ (⟨#[47]⟩ : ByteArray)).size + t142.size ≤ 9223372036854775807 then (if (((rdOf ByteArray.empty y138 a0) ++ (⟨#[47]⟩ : ByteArray)) ++ t142).size + 1 ≤ 9223372036854775807 then ((spec_l03Wide.f k a2 6).bind fun t143 => (if ((((rdOf ByteArray.empty y138 a0) ++ (⟨#[47]⟩ : ByteArray)) ++ t142) ++ (⟨#[45]⟩ : ByteArray)).size + t143.size ≤ 9223372036854775807 then (some (((((rdOf ByteArray.empty y138 a0) ++ (⟨#[47]⟩ : ByteArray)) ++ t142) ++ (⟨#[45]⟩ : ByteArray)) ++ t143)) else (none))) else (none)) else (none)) = some r := H
    have A7 := Aside0.mk A70
    clear A70
    by_cases c8 : ((rdOf ByteArray.empty y138 a0) ++ (⟨#[47]⟩ : ByteArray)).size + t142.size ≤ 9223372036854775807
    ·rw [if_pos c8] at H
     have c8b0 := eq_true c8
     have c8b1 : decide (((rdOf ByteArray.empty y138 a0) ++ (⟨#[47]⟩ : ByteArray)).size + t142.size ≤ 9223372036854775807) = true := decide_eq_true c8
     try have c8b2 : (9223372036854775807 < ((rdOf ByteArray.empty y138 a0) ++ (⟨#[47]⟩ : ByteArray)).size + t142.size) = False := eq_false (Nat.not_lt.2 c8)
     by_cases c9 : (((rdOf ByteArray.empty y138 a0) ++ (⟨#[47]⟩ : ByteArray)) ++ t142).size + 1 ≤ 9223372036854775807
     ·rw [if_pos c9] at H
      have c9b0 := eq_true c9
      have c9b1 : decide ((((rdOf ByteArray.empty y138 a0) ++ (⟨#[47]⟩ : ByteArray)) ++ t142).size + 1 ≤ 9223372036854775807) = true := decide_eq_true c9
      try have c9b2 : (9223372036854775807 < (((rdOf ByteArray.empty y138 a0) ++ (⟨#[47]⟩ : ByteArray)) ++ t142).size + 1) = False := eq_false (Nat.not_lt.2 c9)
      replace H := Option.bind_eq_some_iff.mp H
      obtain ⟨t143,A100,H⟩ := H
      replace H : (if ((((rdOf ByteArray.empty y138 a0) ++ (⟨#[47]⟩ : ByteArray)) ++ t142) ++ (⟨#[45]⟩ : ByteArray)).size + t143.size ≤ 9223372036854775807 then (some (((((rdOf ByteArray.empty y138 a0) ++ (⟨#[47]⟩ : ByteArray)) ++ t142) ++ (⟨#[45]⟩ : ByteArray)) ++ t143)) else (none)) = some r := H
      have A10 := Aside0.mk A100
      clear A100
      by_cases c11 : ((((rdOf ByteArray.empty y138 a0) ++ (⟨#[47]⟩ : ByteArray)) ++ t142) ++ (⟨#[45]⟩ : ByteArray)).size + t143.size ≤ 9223372036854775807
      ·rw [if_pos c11] at H
       have c11b0 := eq_true c11
       have c11b1 : decide (((((rdOf ByteArray.empty y138 a0) ++ (⟨#[47]⟩ : ByteArray)) ++ t142) ++ (⟨#[45]⟩ : ByteArray)).size + t143.size ≤ 9223372036854775807) = true := decide_eq_true c11
       try have c11b2 : (9223372036854775807 < ((((rdOf ByteArray.empty y138 a0) ++ (⟨#[47]⟩ : ByteArray)) ++ t142) ++ (⟨#[45]⟩ : ByteArray)).size + t143.size) = False := eq_false (Nat.not_lt.2 c11)
       obtain rfl := Option.some.inj H
       go_enter Tryd.func102,Tryd.ntmps102
       try go_wp2
       have pi141 : (0 ≤ (a0 : Int)) = True := eq_true (of_decide_eq_true (by first | (with_reducible assumption) | assumption))
       have qi141 : (a0 < (y138.length : Int)) = True := eq_true (of_decide_eq_true (by first | (with_reducible assumption) | assumption))
       have n0_ := Aside0.mk (below_drew1 HB.out)
       clear HB
       have HB := n0_
       clear n0_
       refine start_ (n:=13) (S:=fun w' => True) (ds := []) #[false,false,false,false,false,false,false,false,false,false,false,false,false] (by kernel_rfl) rfl rfl trivial (fun hHeld => ?_); refine with_tabW spec_l03Key.tab1 spec_l03Key.bits1 (fun HT_ HW_ => ?_)
       generalize w.drew = w12 at HB hHeld ⊢
       refine pure_ (i:=1) (N:=some 8) (v:=?_) (a':=?_) #[false,true,false,false,false,false,false,false,false,false,false,false,false] rfl rfl (any_of HT_.out (by kernel_rfl)) (fun _ _ _ h => h) (Or.inl ⟨by rfl,?_⟩) ?_ ?_
       rotate_left
       ·intro w'
        go_simp
        first | with_reducible rfl | (rw [if_neg (by simp only [ByteArray.size_append,bsz1,bsz2,bsz3,bsz4] at *; omega)] <;> with_reducible rfl)
       rotate_left
       ·simp only [Act.put,setIfInBounds_toArray,set_cons_zero,set_cons_succ,i64_w,i32_w]
        rfl
       refine pure_ (i:=5) (N:=some 12) (v:=?_) (a':=?_) #[false,true,false,false,false,true,false,false,false,false,false,false,false] rfl rfl (any_of HT_.out (by kernel_rfl)) (fun _ _ _ h => h) (Or.inl ⟨by rfl,?_⟩) ?_ ?_
       rotate_left
       ·intro w'
        go_simp
        first | with_reducible rfl | (rw [if_neg (by simp only [ByteArray.size_append,bsz1,bsz2,bsz3,bsz4] at *; omega)] <;> with_reducible rfl)
       rotate_left
       ·simp only [Act.put,setIfInBounds_toArray,set_cons_zero,set_cons_succ,i64_w,i32_w]
        rfl
       refine pure_ (i:=9) (N:=some 16) (v:=?_) (a':=?_) #[false,true,false,false,false,true,false,false,false,true,false,false,false] rfl rfl (any_of HT_.out (by kernel_rfl)) (fun _ _ _ h => h) (Or.inl ⟨by rfl,?_⟩) ?_ ?_
       rotate_left
       ·intro w'
        go_simp
        first | with_reducible rfl | (rw [if_neg (by simp only [ByteArray.size_append,bsz1,bsz2,bsz3,bsz4] at *; omega)] <;> with_reducible rfl)
       rotate_left
       ·simp only [Act.put,setIfInBounds_toArray,set_cons_zero,set_cons_succ,i64_w,i32_w]
        rfl
       refine inv_at [0,2,3,4,6,7,8,10,11,12] (fun a0_ b a w' => ∃ (v139 : Value) (adz_v139 : Addr) (m2_ : Value),a = putSel a0_ b [(0,7,v139),(2,9,m2_),(3,10,.string (rdOf ByteArray.empty y138 a0)),(4,11,.string ((rdOf ByteArray.empty y138 a0) ++ (⟨#[47]⟩ : ByteArray))),(6,13,.string t142),(7,14,.string (((rdOf ByteArray.empty y138 a0) ++ (⟨#[47]⟩ : ByteArray)) ++ t142)),(8,15,.string ((((rdOf ByteArray.empty y138 a0) ++ (⟨#[47]⟩ : ByteArray)) ++ t142) ++ (⟨#[45]⟩ : ByteArray))),(10,17,.string t143),(11,18,.string (((((rdOf ByteArray.empty y138 a0) ++ (⟨#[47]⟩ : ByteArray)) ++ t142) ++ (⟨#[45]⟩ : ByteArray)) ++ t143)),(12,6,.string (((((rdOf ByteArray.empty y138 a0) ++ (⟨#[47]⟩ : ByteArray)) ++ t142) ++ (⟨#[45]⟩ : ByteArray)) ++ t143))] ∧ (Below w.heap.size w w') ∧ (b 0 = true → Kd.R Kd.string 9 w' w.heap.size (fun _ => True) v139 y138) ∧ (b 0 = true → ∃ c_,(v139 : Value) = .slice (some adz_v139) y138.length c_) ∧ (b 2 = true → (m2_ : Value) = .pointer (some (adz_v139.add (a0).toNat)))) HT_.out HW_.out (by kernel_rfl) (by kernel_rfl) ?_ ?_ ?_
       ·exact ⟨.bool false,⟨0,0,none⟩,.bool false,by simp only [putSel,Bool.false_eq_true,if_false],HB.out,fun h_ => absurd h_ (by decide),fun h_ => absurd h_ (by decide),fun h_ => absurd h_ (by decide)⟩
       ·skip
        clear HB
        refine steps_cons ?_ ?_
        ·rintro b a w' ⟨v139,adz_v139,m2_,ha,Q_HB,Q_HO140,Q_HA_HO140,Q_X2_⟩ hb_ hon hoff
         refine ⟨_,rfl,fun K hK => ?_⟩
         replace ha := Aside0.mk ha
         have HB := Aside0.mk Q_HB
         refine Kd.R_lit_step Kd.string _ 9 ?hg (N:=7) ?hd (xs := ([(⟨#[114,97,119]⟩ : ByteArray),(⟨#[116,49]⟩ : ByteArray),(⟨#[116,50]⟩ : ByteArray)] : List ByteArray)) (inner := [.string (⟨#[114,97,119]⟩ : ByteArray),.string (⟨#[116,49]⟩ : ByteArray),.string (⟨#[116,50]⟩ : ByteArray)]) (ok := fun _ => True) (okp := fun _ => True) ?hr ?hp (fun _ hk => hk) trivial (Below.refl _ _) (Nat.le_refl _) (by simp) ?_; (case hd => rfl); (case hg => rfl); (case hr => first | (go_simp; done) | (go_simp; rfl)); (case hp => exact (Reps.one (show Kd.M Kd.string _ _ _ (⟨#[114,97,119]⟩ : ByteArray) [.string (⟨#[114,97,119]⟩ : ByteArray)] from rfl) (Reps.one (show Kd.M Kd.string _ _ _ (⟨#[116,49]⟩ : ByteArray) [.string (⟨#[116,49]⟩ : ByteArray)] from rfl) (Reps.one (show Kd.M Kd.string _ _ _ (⟨#[116,50]⟩ : ByteArray) [.string (⟨#[116,50]⟩ : ByteArray)] from rfl) (Reps.none _ _)))))
         intro v139 w13 ho14 hb hg_ hnew_
         clear hg_ hnew_
         (first | rw [← Ny138.out] at ho14 | (simp only [Int.reduceToNat] at ho14; rw [← Ny138.out] at ho14))
         have n0_ := Aside0.mk (Kd.R_lower ho14 (below_size (by repeat (first | (with_reducible first | exact HB.out | apply below_alloc | apply pw_below_drewN | apply below_drew1) | exact HB.out))))
         have n1_ := Aside0.mk (below_step (by repeat (first | (with_reducible first | exact HB.out | apply below_alloc | apply pw_below_drewN | apply below_drew1) | exact HB.out)) hb)
         clear HB
         have HO140 := n0_
         have HB := n1_
         clear n0_ n1_
         clear hb ho14
         obtain ⟨Ao15,co15,eo15⟩ := Kd.R_slice HO140.out
         subst eo15
         obtain ⟨ado15,fo15,_⟩ := Kd.at_string (Kd.R_reads' HO140.out).2.2 0 (by decide) (by rw [Ny138.out]; simp)
         cases fo15
         refine hK.out _ _ ⟨.slice (some ado15) y138.length co15,ado15,m2_,(by rw [ha.out]; exact putSel_upk 0 hb_ rfl rfl rfl),(by repeat (first | (with_reducible first | exact HB.out | apply below_alloc | apply pw_below_drewN | apply below_drew1) | exact HB.out)),fun _ => (by (with_reducible repeat (first | apply Kd.R_alloc | apply Kd.R_drewN | apply Kd.R_drew)); exact HO140.out),fun _ => ⟨_,rfl⟩,fun h0_ => absurd ((hoff 2 (by kernel_rfl)).symm.trans h0_) (by decide)⟩
        refine steps_cons ?_ ?_
        ·rintro b a w' ⟨v139,adz_v139,m2_,ha,Q_HB,Q_HO140,Q_HA_HO140,Q_X2_⟩ hb_ hon hoff
         refine ⟨_,rfl,fun K hK => ?_⟩
         have e7 : a.tmps[7]? = some (v139) := by rw [ha]; exact putSel_on (e:=(0,7,v139)) 0 rfl rfl (hon 0 (by kernel_rfl)) rfl
         have e8 : a.tmps[8]? = some (.int .i64 a0) := by rw [ha]; exact (putSel_off rfl).trans rfl
         replace ha := Aside0.mk ha
         have HB := Aside0.mk Q_HB
         have HO140 := Aside0.mk (Q_HO140 (hon 0 (by kernel_rfl)))
         have HA_HO140 := Aside0.mk (Q_HA_HO140 (hon 0 (by kernel_rfl)))
         obtain ⟨c_,hv_⟩ := HA_HO140.out
         rw [hv_] at e7
         refine value_ (w1 := w') (v:=.pointer (some (adz_v139.add (a0).toNat))) (by rfl) rfl ?_ ?_
         ·go_simp
          (try simp only [i64_w])
          try rfl
          all_goals (simp only [ByteArray.size_append,bsz1,bsz2,bsz3,bsz4] at *; omega)
         refine hK.out _ _ ⟨v139,adz_v139,(.pointer (some (adz_v139.add (a0).toNat))),(by rw [ha.out]; exact putSel_upk 1 hb_ rfl rfl rfl),Q_HB,Q_HO140,Q_HA_HO140,fun _ => rfl⟩
        refine steps_cons ?_ ?_
        ·rintro b a w' ⟨v139,adz_v139,m2_,ha,Q_HB,Q_HO140,Q_HA_HO140,Q_X2_⟩ hb_ hon hoff
         refine ⟨_,rfl,fun K hK => ?_⟩
         have e9 : a.tmps[9]? = some (m2_) := by rw [ha]; exact putSel_on (e:=(2,9,m2_)) 1 rfl rfl (hon 2 (by kernel_rfl)) rfl
         rw [Q_X2_ (hon 2 (by kernel_rfl))] at e9
         replace ha := Aside0.mk ha
         have HB := Aside0.mk Q_HB
         have HO140 := Aside0.mk (Q_HO140 (hon 0 (by kernel_rfl)))
         have HA_HO140 := Aside0.mk (Q_HA_HO140 (hon 0 (by kernel_rfl)))
         obtain ⟨c_,hv_⟩ := HA_HO140.out
         have hF_ := HO140.out
         rw [hv_] at hF_
         obtain ⟨ad_,ea_,hx_⟩ := Kd.at_string (Kd.R_reads' hF_).2.2 a0 (of_eq_true pi141) (of_eq_true qi141)
         cases ea_
         refine value_ (w1 := w') (v:=.string (rdOf ByteArray.empty y138 a0)) (by rfl) rfl ?_ ?_
         ·go_simp
          (try simp only [i64_w])
          try rfl
          all_goals (simp only [ByteArray.size_append,bsz1,bsz2,bsz3,bsz4] at *; omega)
         refine hK.out _ _ ⟨v139,adz_v139,m2_,(by rw [ha.out]; exact putSel_upk 2 hb_ rfl rfl rfl),Q_HB,Q_HO140,Q_HA_HO140,Q_X2_⟩
        refine steps_cons ?_ ?_
        ·rintro b a w' ⟨v139,adz_v139,m2_,ha,Q_HB,Q_HO140,Q_HA_HO140,Q_X2_⟩ hb_ hon hoff
         refine ⟨_,rfl,fun K hK => ?_⟩
         have e10 : a.tmps[10]? = some (.string (rdOf ByteArray.empty y138 a0)) := by rw [ha]; exact putSel_on (e:=(3,10,.string (rdOf ByteArray.empty y138 a0))) 2 rfl rfl (hon 3 (by kernel_rfl)) rfl
         replace ha := Aside0.mk ha
         have HB := Aside0.mk Q_HB
         have HO140 := Aside0.mk (Q_HO140 (hon 0 (by kernel_rfl)))
         have HA_HO140 := Aside0.mk (Q_HA_HO140 (hon 0 (by kernel_rfl)))
         refine value_ (w1 := w') (v:=.string ((rdOf ByteArray.empty y138 a0) ++ (⟨#[47]⟩ : ByteArray))) (by rfl) rfl ?_ ?_
         ·go_simp
          (try simp only [i64_w])
          try rfl
          all_goals (simp only [ByteArray.size_append,bsz1,bsz2,bsz3,bsz4] at *; omega)
         refine hK.out _ _ ⟨v139,adz_v139,m2_,(by rw [ha.out]; exact putSel_upk 3 hb_ rfl rfl rfl),Q_HB,Q_HO140,Q_HA_HO140,Q_X2_⟩
        refine steps_cons ?_ ?_
        ·rintro b a w' ⟨v139,adz_v139,m2_,ha,Q_HB,Q_HO140,Q_HA_HO140,Q_X2_⟩ hb_ hon hoff
         refine ⟨_,rfl,fun K hK => ?_⟩
         have e12 : a.tmps[12]? = some (.int .i64 a1) := by rw [ha]; exact (putSel_off rfl).trans rfl
         replace ha := Aside0.mk ha
         have HB := Aside0.mk Q_HB
         refine goes_ Tryd.func114 (by kernel_rfl) rfl #[.int .i64 a1,.int .i64 6] (by rfl) rfl rfl (by first | (simp only [List.map_toArray,List.map_cons,List.map_nil,Act.eval,Array.getD_eq_getD_getElem?,Option.getD_some,e12]; done) | (simp only [List.map_toArray,List.map_cons,List.map_nil,Act.eval,Array.getD_eq_getD_getElem?,Option.getD_some,e12]; rfl)) ?_
         with_reducible refine (spec_l03Wide.calls k a1 6 t142 _ A7.out).mono ?_
         rintro e w13 ⟨rfl,hb⟩
         refine ⟨_,rfl,?_⟩
         have n0_ := Aside0.mk (below_step (by repeat (first | (with_reducible first | exact HB.out | apply below_alloc | apply pw_below_drewN | apply below_drew1) | exact HB.out)) hb)
         have z_HO140 := fun (h0_ : b 0 = true) => (show Kd.R Kd.string 9 w13 w.heap.size (fun _ => True) v139 y138 from by first | exact (Kd.R_below (by (with_reducible repeat (first | apply Kd.R_alloc | apply Kd.R_drewN | apply Kd.R_drew)); exact (Q_HO140 h0_)) hb) | exact Kd.R_mono (Kd.R_below (by (with_reducible repeat (first | apply Kd.R_alloc | apply Kd.R_drewN | apply Kd.R_drew)); exact (Q_HO140 h0_)) hb) (fun _ h_ => by first | trivial | exact h_ | exact h_.1))
         clear HB
         have HB := n0_
         clear n0_
         (try clear hb)
         (try clear hb2)
         (try clear hk)
         (try clear hi)
         refine hK.out _ _ ⟨v139,adz_v139,m2_,(by rw [ha.out]; exact putSel_upk 4 hb_ rfl rfl rfl),(by repeat (first | (with_reducible first | exact HB.out | apply below_alloc | apply pw_below_drewN | apply below_drew1) | exact HB.out)),z_HO140,Q_HA_HO140,Q_X2_⟩
        refine steps_cons ?_ ?_
        ·rintro b a w' ⟨v139,adz_v139,m2_,ha,Q_HB,Q_HO140,Q_HA_HO140,Q_X2_⟩ hb_ hon hoff
         refine ⟨_,rfl,fun K hK => ?_⟩
         have e11 : a.tmps[11]? = some (.string ((rdOf ByteArray.empty y138 a0) ++ (⟨#[47]⟩ : ByteArray))) := by rw [ha]; exact putSel_on (e:=(4,11,.string ((rdOf ByteArray.empty y138 a0) ++ (⟨#[47]⟩ : ByteArray)))) 3 rfl rfl (hon 4 (by kernel_rfl)) rfl
         have e13 : a.tmps[13]? = some (.string t142) := by rw [ha]; exact putSel_on (e:=(6,13,.string t142)) 4 rfl rfl (hon 6 (by kernel_rfl)) rfl
         replace ha := Aside0.mk ha
         have HB := Aside0.mk Q_HB
         have HO140 := Aside0.mk (Q_HO140 (hon 0 (by kernel_rfl)))
         have HA_HO140 := Aside0.mk (Q_HA_HO140 (hon 0 (by kernel_rfl)))
         refine value_ (w1 := w') (v:=.string (((rdOf ByteArray.empty y138 a0) ++ (⟨#[47]⟩ : ByteArray)) ++ t142)) (by rfl) rfl ?_ ?_
         ·go_simp
          (try simp only [i64_w])
          try rfl
          all_goals (simp only [ByteArray.size_append,bsz1,bsz2,bsz3,bsz4] at *; omega)
         refine hK.out _ _ ⟨v139,adz_v139,m2_,(by rw [ha.out]; exact putSel_upk 5 hb_ rfl rfl rfl),Q_HB,Q_HO140,Q_HA_HO140,Q_X2_⟩
        refine steps_cons ?_ ?_
        ·rintro b a w' ⟨v139,adz_v139,m2_,ha,Q_HB,Q_HO140,Q_HA_HO140,Q_X2_⟩ hb_ hon hoff
         refine ⟨_,rfl,fun K hK => ?_⟩
         have e14 : a.tmps[14]? = some (.string (((rdOf ByteArray.empty y138 a0) ++ (⟨#[47]⟩ : ByteArray)) ++ t142)) := by rw [ha]; exact putSel_on (e:=(7,14,.string (((rdOf ByteArray.empty y138 a0) ++ (⟨#[47]⟩ : ByteArray)) ++ t142))) 5 rfl rfl (hon 7 (by kernel_rfl)) rfl
         replace ha := Aside0.mk ha
         have HB := Aside0.mk Q_HB
         have HO140 := Aside0.mk (Q_HO140 (hon 0 (by kernel_rfl)))
         have HA_HO140 := Aside0.mk (Q_HA_HO140 (hon 0 (by kernel_rfl)))
         refine value_ (w1 := w') (v:=.string ((((rdOf ByteArray.empty y138 a0) ++ (⟨#[47]⟩ : ByteArray)) ++ t142) ++ (⟨#[45]⟩ : ByteArray))) (by rfl) rfl ?_ ?_
         ·go_simp
          (try simp only [i64_w])
          try rfl
          all_goals (simp only [ByteArray.size_append,bsz1,bsz2,bsz3,bsz4] at *; omega)
         refine hK.out _ _ ⟨v139,adz_v139,m2_,(by rw [ha.out]; exact putSel_upk 6 hb_ rfl rfl rfl),Q_HB,Q_HO140,Q_HA_HO140,Q_X2_⟩
        refine steps_cons ?_ ?_
        ·rintro b a w' ⟨v139,adz_v139,m2_,ha,Q_HB,Q_HO140,Q_HA_HO140,Q_X2_⟩ hb_ hon hoff
         refine ⟨_,rfl,fun K hK => ?_⟩
         have e16 : a.tmps[16]? = some (.int .i64 a2) := by rw [ha]; exact (putSel_off rfl).trans rfl
         replace ha := Aside0.mk ha
         have HB := Aside0.mk Q_HB
         refine goes_ Tryd.func114 (by kernel_rfl) rfl #[.int .i64 a2,.int .i64 6] (by rfl) rfl rfl (by first | (simp only [List.map_toArray,List.map_cons,List.map_nil,Act.eval,Array.getD_eq_getD_getElem?,Option.getD_some,e16]; done) | (simp only [List.map_toArray,List.map_cons,List.map_nil,Act.eval,Array.getD_eq_getD_getElem?,Option.getD_some,e16]; rfl)) ?_
         with_reducible refine (spec_l03Wide.calls k a2 6 t143 _ A10.out).mono ?_
         rintro e w15 ⟨rfl,hb⟩
         refine ⟨_,rfl,?_⟩
         have n0_ := Aside0.mk (below_step (by repeat (first | (with_reducible first | exact HB.out | apply below_alloc | apply pw_below_drewN | apply below_drew1) | exact HB.out)) hb)
         have z_HO140 := fun (h0_ : b 0 = true) => (show Kd.R Kd.string 9 w15 w.heap.size (fun _ => True) v139 y138 from by first | exact (Kd.R_below (by (with_reducible repeat (first | apply Kd.R_alloc | apply Kd.R_drewN | apply Kd.R_drew)); exact (Q_HO140 h0_)) hb) | exact Kd.R_mono (Kd.R_below (by (with_reducible repeat (first | apply Kd.R_alloc | apply Kd.R_drewN | apply Kd.R_drew)); exact (Q_HO140 h0_)) hb) (fun _ h_ => by first | trivial | exact h_ | exact h_.1))
         clear HB
         have HB := n0_
         clear n0_
         (try clear hb)
         (try clear hb2)
         (try clear hk)
         (try clear hi)
         refine hK.out _ _ ⟨v139,adz_v139,m2_,(by rw [ha.out]; exact putSel_upk 7 hb_ rfl rfl rfl),(by repeat (first | (with_reducible first | exact HB.out | apply below_alloc | apply pw_below_drewN | apply below_drew1) | exact HB.out)),z_HO140,Q_HA_HO140,Q_X2_⟩
        refine steps_cons ?_ ?_
        ·rintro b a w' ⟨v139,adz_v139,m2_,ha,Q_HB,Q_HO140,Q_HA_HO140,Q_X2_⟩ hb_ hon hoff
         refine ⟨_,rfl,fun K hK => ?_⟩
         have e15 : a.tmps[15]? = some (.string ((((rdOf ByteArray.empty y138 a0) ++ (⟨#[47]⟩ : ByteArray)) ++ t142) ++ (⟨#[45]⟩ : ByteArray))) := by rw [ha]; exact putSel_on (e:=(8,15,.string ((((rdOf ByteArray.empty y138 a0) ++ (⟨#[47]⟩ : ByteArray)) ++ t142) ++ (⟨#[45]⟩ : ByteArray)))) 6 rfl rfl (hon 8 (by kernel_rfl)) rfl
         have e17 : a.tmps[17]? = some (.string t143) := by rw [ha]; exact putSel_on (e:=(10,17,.string t143)) 7 rfl rfl (hon 10 (by kernel_rfl)) rfl
         replace ha := Aside0.mk ha
         have HB := Aside0.mk Q_HB
         have HO140 := Aside0.mk (Q_HO140 (hon 0 (by kernel_rfl)))
         have HA_HO140 := Aside0.mk (Q_HA_HO140 (hon 0 (by kernel_rfl)))
         refine value_ (w1 := w') (v:=.string (((((rdOf ByteArray.empty y138 a0) ++ (⟨#[47]⟩ : ByteArray)) ++ t142) ++ (⟨#[45]⟩ : ByteArray)) ++ t143)) (by rfl) rfl ?_ ?_
         ·go_simp
          (try simp only [i64_w])
          try rfl
          all_goals (simp only [ByteArray.size_append,bsz1,bsz2,bsz3,bsz4] at *; omega)
         refine hK.out _ _ ⟨v139,adz_v139,m2_,(by rw [ha.out]; exact putSel_upk 8 hb_ rfl rfl rfl),Q_HB,Q_HO140,Q_HA_HO140,Q_X2_⟩
        refine steps_cons ?_ ?_
        ·rintro b a w' ⟨v139,adz_v139,m2_,ha,Q_HB,Q_HO140,Q_HA_HO140,Q_X2_⟩ hb_ hon hoff
         refine ⟨_,rfl,fun K hK => ?_⟩
         have e18 : a.tmps[18]? = some (.string (((((rdOf ByteArray.empty y138 a0) ++ (⟨#[47]⟩ : ByteArray)) ++ t142) ++ (⟨#[45]⟩ : ByteArray)) ++ t143)) := by rw [ha]; exact putSel_on (e:=(11,18,.string (((((rdOf ByteArray.empty y138 a0) ++ (⟨#[47]⟩ : ByteArray)) ++ t142) ++ (⟨#[45]⟩ : ByteArray)) ++ t143))) 8 rfl rfl (hon 11 (by kernel_rfl)) rfl
         replace ha := Aside0.mk ha
         have HB := Aside0.mk Q_HB
         have HO140 := Aside0.mk (Q_HO140 (hon 0 (by kernel_rfl)))
         have HA_HO140 := Aside0.mk (Q_HA_HO140 (hon 0 (by kernel_rfl)))
         refine value_ (w1 := w') (v:=.string (((((rdOf ByteArray.empty y138 a0) ++ (⟨#[47]⟩ : ByteArray)) ++ t142) ++ (⟨#[45]⟩ : ByteArray)) ++ t143)) (by rfl) rfl ?_ ?_
         ·go_simp
          (try simp only [i64_w])
          try rfl
          all_goals (simp only [ByteArray.size_append,bsz1,bsz2,bsz3,bsz4] at *; omega)
         refine hK.out _ _ ⟨v139,adz_v139,m2_,(by rw [ha.out]; exact putSel_upk 9 hb_ rfl rfl rfl),Q_HB,Q_HO140,Q_HA_HO140,Q_X2_⟩
        exact steps_nil
       rintro b a w18 hall ⟨v139,adz_v139,m2_,ha,Q_HB,Q_HO140,Q_HA_HO140,Q_X2_⟩
       clear HB
       have hb0_ := hall 0 (by kernel_rfl)
       have hb2_ := hall 2 (by kernel_rfl)
       have hb3_ := hall 3 (by kernel_rfl)
       have hb4_ := hall 4 (by kernel_rfl)
       have hb6_ := hall 6 (by kernel_rfl)
       have hb7_ := hall 7 (by kernel_rfl)
       have hb8_ := hall 8 (by kernel_rfl)
       have hb10_ := hall 10 (by kernel_rfl)
       have hb11_ := hall 11 (by kernel_rfl)
       have hb12_ := hall 12 (by kernel_rfl)
       subst ha
       obtain rfl := Q_X2_ hb2_
       simp only [putSel,hb0_,hb2_,hb3_,hb4_,hb6_,hb7_,hb8_,hb10_,hb11_,hb12_,if_true,Act.put,setIfInBounds_toArray,set_cons_zero,set_cons_succ]
       have HB := Aside0.mk Q_HB
       clear Q_HB
       have HO140 := Aside0.mk (Q_HO140 hb0_)
       clear Q_HO140
       have HA_HO140 := Aside0.mk (Q_HA_HO140 hb0_)
       clear Q_HA_HO140
       clear hall hb0_ hb2_ hb3_ hb4_ hb6_ hb7_ hb8_ hb10_ hb11_ hb12_
       obtain ⟨co19,eo19⟩ := HA_HO140.out
       clear HA_HO140
       subst eo19
       try go_wp2
       go_ret
       exact ⟨by first | rfl | (simp [errW_none,errW_some] <;> rfl) | (simp [*,errW_none,errW_some] <;> rfl),by repeat (first | (with_reducible first | exact HB.out | apply below_alloc | apply pw_below_drewN | apply below_drew1) | exact HB.out)⟩
      ·rw [if_neg c11] at H
       exact absurd H (by simp)
     ·rw [if_neg c9] at H
      exact absurd H (by simp)
    ·rw [if_neg c8] at H
     exact absurd H (by simp)
   ·rw [if_neg c6] at H
    exact absurd H (by simp)
  ·rw [if_neg c5] at H
   exact absurd H (by simp)
 ·rw [if_neg c4] at H
  exact absurd H (by simp)

/-! ### spec_l03ToKey: function 79 -/
def spec_l03ToKey.j0 : Nat → ByteArray → List ByteArray → Bool → Option (Int × Int × Int × Bool)
 | 0,_,_,_ => none
 | k + 1,x0,x6,x30 => if x30 = true then (some (0,0,0,false)) else (if 0 < (x6.length : Int) then ((spec_l01Bit.f ((rdOf ByteArray.empty x6 0).toList == ([116,49] : List UInt8))).bind fun t150 => ((spec_l01Bit.f ((rdOf ByteArray.empty x6 0).toList == ([116,50] : List UInt8))).bind fun t152 => (if 1 < (x6.length : Int) then (if 0 ≤ 6 then (if 6 ≤ ((rdOf ByteArray.empty x6 1).size : Int) then ((spec_l03Fixed.f k ((rdOf ByteArray.empty x6 1).extract 0 6)).bind fun bt154 => (if 7 ≤ ((rdOf ByteArray.empty x6 1).size : Int) then ((spec_l03Fixed.f k ((rdOf ByteArray.empty x6 1).extract 7 (rdOf ByteArray.empty x6 1).size)).bind fun bt157 => (if bt154.2 = true then (if bt157.2 = true then ((spec_l03KeyOK.f (wrap64 (t150 + (wrap64 (2 * t152)))) bt154.1 bt157.1).bind fun t159 => (if t159 = true then ((spec_l03Key.f k (wrap64 (t150 + (wrap64 (2 * t152)))) bt154.1 bt157.1).bind fun t160 => (if t160.toList = x0.toList then (some (wrap64 (t150 + (wrap64 (2 * t152))),bt154.1,bt157.1,true)) else (some (0,0,0,false)))) else (some (0,0,0,false)))) else (some (0,0,0,false))) else (some (0,0,0,false)))) else (none))) else (none)) else (none)) else (none)))) else (none))
def spec_l03ToKey.f (k : Nat) (a0 : ByteArray) : Option (Int × Int × Int × Bool) := (spec_l00Cut.f k a0 47).bind fun t144 => (if (t144.length : Int) = 2 then (if 1 < (t144.length : Int) then (if ((rdOf ByteArray.empty t144 1).size : Int) = 13 then (if 6 < ((rdOf ByteArray.empty t144 1).size : Int) then (spec_l03ToKey.j0 k a0 t144 ((bt (rdOf ByteArray.empty t144 1) 6) != 45)) else (none)) else (spec_l03ToKey.j0 k a0 t144 true)) else (none)) else (spec_l03ToKey.j0 k a0 t144 true))
theorem spec_l03ToKey.mono_l : ∀ k,(∀ y0 y1 y2,LeO (spec_l03ToKey.j0 k y0 y1 y2) (spec_l03ToKey.j0 (k + 1) y0 y1 y2))
 | 0 => fun _ _ _ r h => by simp [spec_l03ToKey.j0] at h
 | k + 1 => by
  have ih0 := spec_l03ToKey.mono_l k
  ·intro y0 y1 y2
   unfold spec_l03ToKey.j0
   repeat' first
   | (with_reducible exact ih0 _ _ _)
   | (with_reducible exact spec_l00Cut.mono _ _ _)
   | (with_reducible exact spec_l03Fixed.mono _ _)
   | (with_reducible exact spec_l03Key.mono _ _ _ _)
   | (with_reducible exact LeO.refl _)
   | (with_reducible exact LeO.none _)
   | (with_reducible refine LeO.ite ?_ ?_)
   | (with_reducible refine LeO.bind ?_ (fun _ => ?_))
   | exact ih0 _ _ _
   | exact spec_l00Cut.mono _ _ _
   | exact spec_l03Fixed.mono _ _
   | exact spec_l03Key.mono _ _ _ _
   | exact LeO.none _
   | refine LeO.ite ?_ ?_
   | refine LeO.bind ?_ (fun _ => ?_)
theorem spec_l03ToKey.mono : ∀ a0 k,LeO (spec_l03ToKey.f k a0) (spec_l03ToKey.f (k + 1) a0) := by
 intro a0 k
 have ih0 := spec_l03ToKey.mono_l k
 unfold spec_l03ToKey.f
 repeat' first
   | (with_reducible exact ih0 _ _ _)
   | (with_reducible exact spec_l00Cut.mono _ _ _)
   | (with_reducible exact spec_l03Fixed.mono _ _)
   | (with_reducible exact spec_l03Key.mono _ _ _ _)
   | (with_reducible exact LeO.refl _)
   | (with_reducible exact LeO.none _)
   | (with_reducible refine LeO.ite ?_ ?_)
   | (with_reducible refine LeO.bind ?_ (fun _ => ?_))
   | exact ih0 _ _ _
   | exact spec_l00Cut.mono _ _ _
   | exact spec_l03Fixed.mono _ _
   | exact spec_l03Key.mono _ _ _ _
   | exact LeO.none _
   | refine LeO.ite ?_ ?_
   | refine LeO.bind ?_ (fun _ => ?_)
set_option maxHeartbeats 8000000 in
set_option maxRecDepth 100000 in
theorem spec_l03ToKey.calls (k : Nat) (a0 : ByteArray) (r1 : Int) (r2 : Int) (r3 : Int) (r4 : Bool) (w : World) (h : spec_l03ToKey.f k a0 = some (r1,r2,r3,r4)) :
  Calls Tryd.prog 79 #[.string a0] w fun e w' => e = .returned (.tuple #[.int .i64 r1,.int .i64 r2,.int .i64 r3,.bool r4]) ∧ Below w.heap.size w w' := by
 have HB := Aside0.mk (Below.refl w.heap.size w)
 have H : ((spec_l00Cut.f k a0 47).bind fun t144 => (if (t144.length : Int) = 2 then (if 1 < (t144.length : Int) then (if ((rdOf ByteArray.empty t144 1).size : Int) = 13 then (if 6 < ((rdOf ByteArray.empty t144 1).size : Int) then (spec_l03ToKey.j0 k a0 t144 ((bt (rdOf ByteArray.empty t144 1) 6) != 45)) else (none)) else (spec_l03ToKey.j0 k a0 t144 true)) else (none)) else (spec_l03ToKey.j0 k a0 t144 true))) = some (r1,r2,r3,r4) := h
 clear h
 replace H := Option.bind_eq_some_iff.mp H
 obtain ⟨t144,A20,H⟩ := H
 replace H : (if (t144.length : Int) = 2 then (if 1 < (t144.length : Int) then (if ((rdOf ByteArray.empty t144 1).size : Int) = 13 then (if 6 < ((rdOf ByteArray.empty t144 1).size : Int) then (spec_l03ToKey.j0 k a0 t144 ((bt (rdOf ByteArray.empty t144 1) 6) != 45)) else (none)) else (spec_l03ToKey.j0 k a0 t144 true)) else (none)) else (spec_l03ToKey.j0 k a0 t144 true)) = some (r1,r2,r3,r4) := H
 have A2 := Aside0.mk A20
 clear A20
 have HC3 := Aside0.mk H
 clear H
 go_enter Tryd.func79,Tryd.ntmps79
 go_upto_region 2 with (first | (go_at_call 99; (with_reducible refine (spec_l00Cut.calls k a0 47 t144 _ A2.out).mono ?_); rintro e w4 ⟨v145,rfl,ho0,hb⟩; have n0_ := Aside0.mk (Kd.R_lower ho0 (below_size (by repeat (first | (with_reducible first | exact HB.out | apply below_alloc | apply pw_below_drewN | apply below_drew1) | exact HB.out)))); have n1_ := Aside0.mk (below_step (by repeat (first | (with_reducible first | exact HB.out | apply below_alloc | apply pw_below_drewN | apply below_drew1) | exact HB.out)) hb); clear HB; have HO146 := n0_; have HB := n1_; clear n0_ n1_; (try clear hb); (try clear hb2); (try clear hk); (try clear hi); (try clear ho0)))
 repeat (go_quiet (first | (go_at_call 99; (with_reducible refine (spec_l00Cut.calls k a0 47 t144 _ A2.out).mono ?_); rintro e w4 ⟨v145,rfl,ho0,hb⟩; have n0_ := Aside0.mk (Kd.R_lower ho0 (below_size (by repeat (first | (with_reducible first | exact HB.out | apply below_alloc | apply pw_below_drewN | apply below_drew1) | exact HB.out)))); have n1_ := Aside0.mk (below_step (by repeat (first | (with_reducible first | exact HB.out | apply below_alloc | apply pw_below_drewN | apply below_drew1) | exact HB.out)) hb); clear HB; have HO146 := n0_; have HB := n1_; clear n0_ n1_; (try clear hb); (try clear hb2); (try clear hk); (try clear hi); (try clear ho0))); go_upto_region 2 with (first | (go_at_call 99; (with_reducible refine (spec_l00Cut.calls k a0 47 t144 _ A2.out).mono ?_); rintro e w4 ⟨v145,rfl,ho0,hb⟩; have n0_ := Aside0.mk (Kd.R_lower ho0 (below_size (by repeat (first | (with_reducible first | exact HB.out | apply below_alloc | apply pw_below_drewN | apply below_drew1) | exact HB.out)))); have n1_ := Aside0.mk (below_step (by repeat (first | (with_reducible first | exact HB.out | apply below_alloc | apply pw_below_drewN | apply below_drew1) | exact HB.out)) hb); clear HB; have HO146 := n0_; have HB := n1_; clear n0_ n1_; (try clear hb); (try clear hb2); (try clear hk); (try clear hi); (try clear ho0))))
 (try simp only [Act.put,setIfInBounds_toArray,set_cons_zero,set_cons_succ])
 go_cut [30] (fun v30 wc => ∃ (kq : Nat) (x30_2 : Bool),v30 = .bool x30_2 ∧ Aside0 (spec_l03ToKey.j0 kq a0 t144 x30_2 = some (r1,r2,r3,r4)) ∧ Aside0 (kq ≤ k) ∧ Aside0 (Kd.R Kd.string 9 wc w.heap.size (fun _ => True) v145 t144) ∧ Aside0 (Below w.heap.size w wc))
 case first =>
  have H := HC3.out
  clear HC3
  by_cases c5 : (t144.length : Int) = 2
  ·rw [if_pos c5] at H
   have c5b0 : ((t144.length : Int) == 2) = true := beq_iff_eq.mpr c5
   have c5b1 : ((t144.length : Int) != 2) = false := bne_eq_false_iff_eq.mpr c5
   clear c5
   (first | rw [c5b0] | (simp only [i64_w,i32_w]; rw [c5b0]) | skip)
   by_cases c6 : 1 < (t144.length : Int)
   ·rw [if_pos c6] at H
    have c6b0 : decide (1 < (t144.length : Int)) = true := decide_eq_true c6
    have c6b1 : decide (1 < t144.length) = true := decide_eq_true (by omega)
    clear c6
    by_cases c7 : ((rdOf ByteArray.empty t144 1).size : Int) = 13
    ·rw [if_pos c7] at H
     have c7b0 : (((rdOf ByteArray.empty t144 1).size : Int) == 13) = true := beq_iff_eq.mpr c7
     have c7b1 : (((rdOf ByteArray.empty t144 1).size : Int) != 13) = false := bne_eq_false_iff_eq.mpr c7
     clear c7
     by_cases c8 : 6 < ((rdOf ByteArray.empty t144 1).size : Int)
     ·rw [if_pos c8] at H
      have c8b0 : decide (6 < ((rdOf ByteArray.empty t144 1).size : Int)) = true := decide_eq_true c8
      have c8b1 : decide (6 < (rdOf ByteArray.empty t144 1).size) = true := decide_eq_true (by omega)
      clear c8
      have H' := Aside0.mk H
      clear H
      obtain ⟨Ao10,co10,eo10⟩ := Kd.R_slice HO146.out
      subst eo10
      have p147 : 0 ≤ (1 : Int) := (by omega)
      have q147 : 1 < (t144.length : Int) := of_decide_eq_true (by first | (with_reducible assumption) | assumption)
      obtain ⟨ad147,e147,hx147_0⟩ := Kd.at_string (Kd.R_reads' HO146.out).2.2 1 p147 q147
      cases e147
      (try simp only [show (1 : Int).toNat = 1 from rfl,Nat.reduceMul,Nat.reduceEqDiff,Go.Addr.add,↓reduceIte] at hx147_0)
      have qi147 : (1 < t144.length) = True := eq_true (by omega)
      (try rw [show ((1 : Int)).toNat = 1 from rfl] at hx147_0)
      replace p147 := eq_true p147
      replace q147 := eq_true q147
      have p148 : 0 ≤ (1 : Int) := (by omega)
      have q148 : 1 < (t144.length : Int) := of_decide_eq_true (by first | (with_reducible assumption) | assumption)
      obtain ⟨ad148,e148,hx148_0⟩ := Kd.at_string (Kd.R_reads' HO146.out).2.2 1 p148 q148
      obtain rfl : ad147 = ad148 := (by injection e148)
      (try simp only [show (1 : Int).toNat = 1 from rfl,Nat.reduceMul,Nat.reduceEqDiff,Go.Addr.add,↓reduceIte] at hx148_0)
      have qi148 : (1 < t144.length) = True := eq_true (by omega)
      (try rw [show ((1 : Int)).toNat = 1 from rfl] at hx148_0)
      replace p148 := eq_true p148
      replace q148 := eq_true q148
      have p9 : 0 ≤ (6 : Int) := (by omega)
      have q9 : 6 < (rdOf ByteArray.empty t144 1).size := (by have : (6 : Int) < ((rdOf ByteArray.empty t144 1).size : Int) := of_decide_eq_true (by first | (with_reducible assumption) | assumption); omega)
      have hx9 : ∀ h : 6 < (rdOf ByteArray.empty t144 1).size,(((rdOf ByteArray.empty t144 1)[6]'h).toNat : Int) = bt (rdOf ByteArray.empty t144 1) 6 := bt_at (rdOf ByteArray.empty t144 1) 6
      clear p9
      have qi9 : (6 < ((rdOf ByteArray.empty t144 1).size : Int)) = True := eq_true (of_decide_eq_true (by first | (with_reducible assumption) | assumption))
      replace q9 := eq_true q9
      go_wp2
      repeat (go_quiet (fail); try go_wp2)
      go_meet
      case rel => exact ⟨_,(((bt (rdOf ByteArray.empty t144 1) 6) != 45)),(by first | rfl | (simp; done) | (simp [*]; done)),H',⟨by first | omega | exact Nat.le_refl _⟩,⟨by (with_reducible repeat (first | apply Kd.R_alloc | apply Kd.R_drewN | apply Kd.R_drew)); exact HO146.out⟩,⟨by repeat (first | (with_reducible first | exact HB.out | apply below_alloc | apply pw_below_drewN | apply below_drew1) | exact HB.out)⟩⟩
     ·rw [if_neg c8] at H
      exact absurd H (by simp)
    ·rw [if_neg c7] at H
     have c7b0 : (((rdOf ByteArray.empty t144 1).size : Int) == 13) = false := beq_eq_false_iff_ne.mpr c7
     have c7b1 : (((rdOf ByteArray.empty t144 1).size : Int) != 13) = true := bne_iff_ne.mpr c7
     have H' := Aside0.mk H
     clear H
     obtain ⟨Ao11,co11,eo11⟩ := Kd.R_slice HO146.out
     subst eo11
     have p147 : 0 ≤ (1 : Int) := (by omega)
     have q147 : 1 < (t144.length : Int) := of_decide_eq_true (by first | (with_reducible assumption) | assumption)
     obtain ⟨ad147,e147,hx147_0⟩ := Kd.at_string (Kd.R_reads' HO146.out).2.2 1 p147 q147
     cases e147
     (try simp only [show (1 : Int).toNat = 1 from rfl,Nat.reduceMul,Nat.reduceEqDiff,Go.Addr.add,↓reduceIte] at hx147_0)
     have qi147 : (1 < t144.length) = True := eq_true (by omega)
     (try rw [show ((1 : Int)).toNat = 1 from rfl] at hx147_0)
     replace p147 := eq_true p147
     replace q147 := eq_true q147
     go_wp2
     repeat (go_quiet (fail); try go_wp2)
     go_meet
     case rel => exact ⟨_,(true),(by first | rfl | (simp; done) | (simp [*]; done)),H',⟨by first | omega | exact Nat.le_refl _⟩,⟨by (with_reducible repeat (first | apply Kd.R_alloc | apply Kd.R_drewN | apply Kd.R_drew)); exact HO146.out⟩,⟨by repeat (first | (with_reducible first | exact HB.out | apply below_alloc | apply pw_below_drewN | apply below_drew1) | exact HB.out)⟩⟩
   ·rw [if_neg c6] at H
    exact absurd H (by simp)
  ·rw [if_neg c5] at H
   have c5b0 : ((t144.length : Int) == 2) = false := beq_eq_false_iff_ne.mpr c5
   have c5b1 : ((t144.length : Int) != 2) = true := bne_iff_ne.mpr c5
   (first | rw [c5b0] | (simp only [i64_w,i32_w]; rw [c5b0]) | skip)
   have H' := Aside0.mk H
   clear H
   obtain ⟨Ao12,co12,eo12⟩ := Kd.R_slice HO146.out
   subst eo12
   go_wp2
   repeat (go_quiet (fail); try go_wp2)
   go_meet
   case rel => exact ⟨_,(true),(by first | rfl | (simp; done) | (simp [*]; done)),H',⟨by first | omega | exact Nat.le_refl _⟩,⟨by (with_reducible repeat (first | apply Kd.R_alloc | apply Kd.R_drewN | apply Kd.R_drew)); exact HO146.out⟩,⟨by repeat (first | (with_reducible first | exact HB.out | apply below_alloc | apply pw_below_drewN | apply below_drew1) | exact HB.out)⟩⟩
 case rest =>
  clear HC3
  try clear p1
  try clear q1
  try clear hx1
  try clear qi1
  try clear p2
  try clear c5
  try clear c5b0
  try clear c5b1
  try clear c6
  try clear c6b0
  try clear c6b1
  try clear c7
  try clear c7b0
  try clear c7b1
  try clear c8
  try clear c8b0
  try clear c8b1
  try clear p9
  try clear q9
  try clear hx9
  try clear qi9
  try clear hx147_0
  try clear hx148_0
  try clear p147
  try clear p148
  try clear p9
  try clear q147
  try clear q148
  try clear q9
  obtain ⟨kq,x30_2,rfl,HA,HJ2,HO_6,HB⟩ := hcut
  cases kq with
  | zero => exact absurd HA.out (by simp [spec_l03ToKey.j0])
  | succ kj2 =>
   have H := HA.out
   clear HA
   simp only [spec_l03ToKey.j0] at H
   by_cases c13 : x30_2 = true
   ·subst c13
    have H1 : (some (0,0,0,false)) = some (r1,r2,r3,r4) := by rw [if_pos rfl] at H; exact H
    clear H
    have H := H1
    clear H1
    simp only [Option.some.injEq,Prod.mk.injEq] at H
    obtain ⟨rfl,rfl,rfl,rfl⟩ := H
    go_wp2
    repeat (go_quiet (fail); try go_wp2)
    refine bodyPost_ret (results_list (rs := [.tmp 2,.tmp 3,.tmp 4,.tmp 5]) rfl (by simp) (.tmp (.tmp (.tmp (.tmp .nil))))) rfl ?_
    exact ⟨by first | rfl | (simp only [i64_w,i32_w] <;> rfl) | (simp [errW_none,errW_some] <;> rfl) | (simp [*,errW_none,errW_some] <;> rfl),by repeat (first | (with_reducible first | exact HB.out | apply below_alloc | apply pw_below_drewN | apply below_drew1) | exact HB.out)⟩
   ·replace c13 := Bool.eq_false_iff.mpr c13
    subst c13
    have H1 : (if 0 < (t144.length : Int) then ((spec_l01Bit.f ((rdOf ByteArray.empty t144 0).toList == ([116,49] : List UInt8))).bind fun t150 => ((spec_l01Bit.f ((rdOf ByteArray.empty t144 0).toList == ([116,50] : List UInt8))).bind fun t152 => (if 1 < (t144.length : Int) then (if 0 ≤ 6 then (if 6 ≤ ((rdOf ByteArray.empty t144 1).size : Int) then ((spec_l03Fixed.f kj2 ((rdOf ByteArray.empty t144 1).extract 0 6)).bind fun bt154 => (if 7 ≤ ((rdOf ByteArray.empty t144 1).size : Int) then ((spec_l03Fixed.f kj2 ((rdOf ByteArray.empty t144 1).extract 7 (rdOf ByteArray.empty t144 1).size)).bind fun bt157 => (if bt154.2 = true then (if bt157.2 = true then ((spec_l03KeyOK.f (wrap64 (t150 + (wrap64 (2 * t152)))) bt154.1 bt157.1).bind fun t159 => (if t159 = true then ((spec_l03Key.f kj2 (wrap64 (t150 + (wrap64 (2 * t152)))) bt154.1 bt157.1).bind fun t160 => (if t160.toList = a0.toList then (some (wrap64 (t150 + (wrap64 (2 * t152))),bt154.1,bt157.1,true)) else (some (0,0,0,false)))) else (some (0,0,0,false)))) else (some (0,0,0,false))) else (some (0,0,0,false)))) else (none))) else (none)) else (none)) else (none)))) else (none)) = some (r1,r2,r3,r4) := by rw [if_neg (show ¬ (false = true) by decide)] at H; exact H
    clear H
    have H := H1
    clear H1
    by_cases c14 : 0 < (t144.length : Int)
    ·rw [if_pos c14] at H
     have c14b0 : decide (0 < (t144.length : Int)) = true := decide_eq_true c14
     have c14b1 : decide (0 < t144.length) = true := decide_eq_true (by omega)
     clear c14
     replace H := Option.bind_eq_some_iff.mp H
     obtain ⟨t150,A150,H⟩ := H
     replace H : ((spec_l01Bit.f ((rdOf ByteArray.empty t144 0).toList == ([116,50] : List UInt8))).bind fun t152 => (if 1 < (t144.length : Int) then (if 0 ≤ 6 then (if 6 ≤ ((rdOf ByteArray.empty t144 1).size : Int) then ((spec_l03Fixed.f kj2 ((rdOf ByteArray.empty t144 1).extract 0 6)).bind fun bt154 => (if 7 ≤ ((rdOf ByteArray.empty t144 1).size : Int) then ((spec_l03Fixed.f kj2 ((rdOf ByteArray.empty t144 1).extract 7 (rdOf ByteArray.empty t144 1).size)).bind fun bt157 => (if bt154.2 = true then (if bt157.2 = true then ((spec_l03KeyOK.f (wrap64 (t150 + (wrap64 (2 * t152)))) bt154.1 bt157.1).bind fun t159 => (if t159 = true then ((spec_l03Key.f kj2 (wrap64 (t150 + (wrap64 (2 * t152)))) bt154.1 bt157.1).bind fun t160 => (if t160.toList = a0.toList then (some (wrap64 (t150 + (wrap64 (2 * t152))),bt154.1,bt157.1,true)) else (some (0,0,0,false)))) else (some (0,0,0,false)))) else (some (0,0,0,false))) else (some (0,0,0,false)))) else (none))) else (none)) else (none)) else (none))) = some (r1,r2,r3,r4) := H
     have A15 := Aside0.mk A150
     clear A150
     replace H := Option.bind_eq_some_iff.mp H
     obtain ⟨t152,A160,H⟩ := H
     replace H : (if 1 < (t144.length : Int) then (if 0 ≤ 6 then (if 6 ≤ ((rdOf ByteArray.empty t144 1).size : Int) then ((spec_l03Fixed.f kj2 ((rdOf ByteArray.empty t144 1).extract 0 6)).bind fun bt154 => (if 7 ≤ ((rdOf ByteArray.empty t144 1).size : Int) then ((spec_l03Fixed.f kj2 ((rdOf ByteArray.empty t144 1).extract 7 (rdOf ByteArray.empty t144 1).size)).bind fun bt157 => (if bt154.2 = true then (if bt157.2 = true then ((spec_l03KeyOK.f (wrap64 (t150 + (wrap64 (2 * t152)))) bt154.1 bt157.1).bind fun t159 => (if t159 = true then ((spec_l03Key.f kj2 (wrap64 (t150 + (wrap64 (2 * t152)))) bt154.1 bt157.1).bind fun t160 => (if t160.toList = a0.toList then (some (wrap64 (t150 + (wrap64 (2 * t152))),bt154.1,bt157.1,true)) else (some (0,0,0,false)))) else (some (0,0,0,false)))) else (some (0,0,0,false))) else (some (0,0,0,false)))) else (none))) else (none)) else (none)) else (none)) = some (r1,r2,r3,r4) := H
     have A16 := Aside0.mk A160
     clear A160
     by_cases c17 : 1 < (t144.length : Int)
     ·rw [if_pos c17] at H
      have c17b0 : decide (1 < (t144.length : Int)) = true := decide_eq_true c17
      have c17b1 : decide (1 < t144.length) = true := decide_eq_true (by omega)
      clear c17
      by_cases c18 : 0 ≤ 6
      ·rw [if_pos c18] at H
       have c18b0 := eq_true c18
       have c18b1 : decide (0 ≤ 6) = true := decide_eq_true c18
       clear c18
       by_cases c19 : 6 ≤ ((rdOf ByteArray.empty t144 1).size : Int)
       ·rw [if_pos c19] at H
        have c19b0 := eq_true c19
        have c19b1 : decide (6 ≤ ((rdOf ByteArray.empty t144 1).size : Int)) = true := decide_eq_true c19
        clear c19
        replace H := Option.bind_eq_some_iff.mp H
        obtain ⟨⟨t154,t155⟩,A200,H⟩ := H
        replace H : (if 7 ≤ ((rdOf ByteArray.empty t144 1).size : Int) then ((spec_l03Fixed.f kj2 ((rdOf ByteArray.empty t144 1).extract 7 (rdOf ByteArray.empty t144 1).size)).bind fun bt157 => (if t155 = true then (if bt157.2 = true then ((spec_l03KeyOK.f (wrap64 (t150 + (wrap64 (2 * t152)))) t154 bt157.1).bind fun t159 => (if t159 = true then ((spec_l03Key.f kj2 (wrap64 (t150 + (wrap64 (2 * t152)))) t154 bt157.1).bind fun t160 => (if t160.toList = a0.toList then (some (wrap64 (t150 + (wrap64 (2 * t152))),t154,bt157.1,true)) else (some (0,0,0,false)))) else (some (0,0,0,false)))) else (some (0,0,0,false))) else (some (0,0,0,false)))) else (none)) = some (r1,r2,r3,r4) := H
        have A20 := Aside0.mk A200
        clear A200
        by_cases c21 : 7 ≤ ((rdOf ByteArray.empty t144 1).size : Int)
        ·rw [if_pos c21] at H
         have c21b0 := eq_true c21
         have c21b1 : decide (7 ≤ ((rdOf ByteArray.empty t144 1).size : Int)) = true := decide_eq_true c21
         clear c21
         replace H := Option.bind_eq_some_iff.mp H
         obtain ⟨⟨t157,t158⟩,A220,H⟩ := H
         replace H : (if t155 = true then (if t158 = true then ((spec_l03KeyOK.f (wrap64 (t150 + (wrap64 (2 * t152)))) t154 t157).bind fun t159 => (if t159 = true then ((spec_l03Key.f kj2 (wrap64 (t150 + (wrap64 (2 * t152)))) t154 t157).bind fun t160 => (if t160.toList = a0.toList then (some (wrap64 (t150 + (wrap64 (2 * t152))),t154,t157,true)) else (some (0,0,0,false)))) else (some (0,0,0,false)))) else (some (0,0,0,false))) else (some (0,0,0,false))) = some (r1,r2,r3,r4) := H
         have A22 := Aside0.mk A220
         clear A220
         by_cases c23 : t155 = true
         ·subst c23
          have H1 : (if t158 = true then ((spec_l03KeyOK.f (wrap64 (t150 + (wrap64 (2 * t152)))) t154 t157).bind fun t159 => (if t159 = true then ((spec_l03Key.f kj2 (wrap64 (t150 + (wrap64 (2 * t152)))) t154 t157).bind fun t160 => (if t160.toList = a0.toList then (some (wrap64 (t150 + (wrap64 (2 * t152))),t154,t157,true)) else (some (0,0,0,false)))) else (some (0,0,0,false)))) else (some (0,0,0,false))) = some (r1,r2,r3,r4) := by rw [if_pos rfl] at H; exact H
          clear H
          have H := H1
          clear H1
          by_cases c24 : t158 = true
          ·subst c24
           have H1 : ((spec_l03KeyOK.f (wrap64 (t150 + (wrap64 (2 * t152)))) t154 t157).bind fun t159 => (if t159 = true then ((spec_l03Key.f kj2 (wrap64 (t150 + (wrap64 (2 * t152)))) t154 t157).bind fun t160 => (if t160.toList = a0.toList then (some (wrap64 (t150 + (wrap64 (2 * t152))),t154,t157,true)) else (some (0,0,0,false)))) else (some (0,0,0,false)))) = some (r1,r2,r3,r4) := by rw [if_pos rfl] at H; exact H
           clear H
           have H := H1
           clear H1
           replace H := Option.bind_eq_some_iff.mp H
           obtain ⟨t159,A250,H⟩ := H
           replace H : (if t159 = true then ((spec_l03Key.f kj2 (wrap64 (t150 + (wrap64 (2 * t152)))) t154 t157).bind fun t160 => (if t160.toList = a0.toList then (some (wrap64 (t150 + (wrap64 (2 * t152))),t154,t157,true)) else (some (0,0,0,false)))) else (some (0,0,0,false))) = some (r1,r2,r3,r4) := H
           have A25 := Aside0.mk A250
           clear A250
           by_cases c26 : t159 = true
           ·subst c26
            have H1 : ((spec_l03Key.f kj2 (wrap64 (t150 + (wrap64 (2 * t152)))) t154 t157).bind fun t160 => (if t160.toList = a0.toList then (some (wrap64 (t150 + (wrap64 (2 * t152))),t154,t157,true)) else (some (0,0,0,false)))) = some (r1,r2,r3,r4) := by rw [if_pos rfl] at H; exact H
            clear H
            have H := H1
            clear H1
            replace H := Option.bind_eq_some_iff.mp H
            obtain ⟨t160,A270,H⟩ := H
            replace H : (if t160.toList = a0.toList then (some (wrap64 (t150 + (wrap64 (2 * t152))),t154,t157,true)) else (some (0,0,0,false))) = some (r1,r2,r3,r4) := H
            have A27 := Aside0.mk A270
            clear A270
            by_cases c28 : t160.toList = a0.toList
            ·rw [if_pos c28] at H
             have c28b0 : (t160.toList == a0.toList) = true := beq_iff_eq.mpr c28
             have c28b1 : (t160.toList != a0.toList) = false := bne_eq_false_iff_eq.mpr c28
             clear c28
             simp only [Option.some.injEq,Prod.mk.injEq] at H
             obtain ⟨rfl,rfl,rfl,rfl⟩ := H
             obtain ⟨Ao29,co29,eo29⟩ := Kd.R_slice HO_6.out
             subst eo29
             have p149 : 0 ≤ (0 : Int) := (by omega)
             have q149 : 0 < (t144.length : Int) := of_decide_eq_true (by first | (with_reducible assumption) | assumption)
             obtain ⟨ad149,e149,hx149_0⟩ := Kd.at_string (Kd.R_reads' HO_6.out).2.2 0 p149 q149
             cases e149
             have qi149 : (0 < t144.length) = True := eq_true (by omega)
             (try rw [show ((0 : Int)).toNat = 0 from rfl] at hx149_0)
             (try rw [Addr.add_zero'] at hx149_0)
             replace p149 := eq_true p149
             replace q149 := eq_true q149
             go_wp2_with (first | (go_at_call 47; (with_reducible refine (spec_l01Bit.calls ((rdOf ByteArray.empty t144 0).toList == ([116,49] : List UInt8)) t150 _ A15.out).mono ?_); rintro e w' ⟨rfl,⟨nd,rfl⟩⟩; (try first | exact ⟨rfl,_,World.drewN_drewN _ _ _⟩ | exact ⟨rfl,_,Eq.trans (World.drewN_drewN _ _ _) (congrArg (World.drewN _) (Nat.add_assoc _ _ _))⟩); have p151 : 0 ≤ (0 : Int) := (by omega); have q151 : 0 < (t144.length : Int) := of_decide_eq_true (by first | (with_reducible assumption) | assumption); obtain ⟨ad151,e151,hx151_0⟩ := Kd.at_string (Kd.R_reads' HO_6.out).2.2 0 p151 q151; obtain rfl : ad149 = ad151 := (by injection e151); have qi151 : (0 < t144.length) = True := eq_true (by omega); (try rw [show ((0 : Int)).toNat = 0 from rfl] at hx151_0); (try rw [Addr.add_zero'] at hx151_0); replace p151 := eq_true p151; replace q151 := eq_true q151) | (go_at_call 47; (with_reducible refine (spec_l01Bit.calls ((rdOf ByteArray.empty t144 0).toList == ([116,50] : List UInt8)) t152 _ A16.out).mono ?_); rintro e w' ⟨rfl,⟨nd,rfl⟩⟩; (try first | exact ⟨rfl,_,World.drewN_drewN _ _ _⟩ | exact ⟨rfl,_,Eq.trans (World.drewN_drewN _ _ _) (congrArg (World.drewN _) (Nat.add_assoc _ _ _))⟩); have p153 : 0 ≤ (1 : Int) := (by omega); have q153 : 1 < (t144.length : Int) := of_decide_eq_true (by first | (with_reducible assumption) | assumption); obtain ⟨ad153,e153,hx153_0⟩ := Kd.at_string (Kd.R_reads' HO_6.out).2.2 1 p153 q153; obtain rfl : ad149 = ad153 := (by injection e153); (try simp only [show (1 : Int).toNat = 1 from rfl,Nat.reduceMul,Nat.reduceEqDiff,Go.Addr.add,↓reduceIte] at hx153_0); have qi153 : (1 < t144.length) = True := eq_true (by omega); (try rw [show ((1 : Int)).toNat = 1 from rfl] at hx153_0); replace p153 := eq_true p153; replace q153 := eq_true q153) | (go_at_call 100; (with_reducible refine (spec_l03Fixed.calls kj2 ((rdOf ByteArray.empty t144 1).extract 0 6) t154 true _ A20.out).mono ?_); rintro e w' ⟨rfl,⟨nd,rfl⟩⟩; (try first | exact ⟨rfl,_,World.drewN_drewN _ _ _⟩ | exact ⟨rfl,_,Eq.trans (World.drewN_drewN _ _ _) (congrArg (World.drewN _) (Nat.add_assoc _ _ _))⟩); have p156 : 0 ≤ (1 : Int) := (by omega); have q156 : 1 < (t144.length : Int) := of_decide_eq_true (by first | (with_reducible assumption) | assumption); obtain ⟨ad156,e156,hx156_0⟩ := Kd.at_string (Kd.R_reads' HO_6.out).2.2 1 p156 q156; obtain rfl : ad149 = ad156 := (by injection e156); (try simp only [show (1 : Int).toNat = 1 from rfl,Nat.reduceMul,Nat.reduceEqDiff,Go.Addr.add,↓reduceIte] at hx156_0); have qi156 : (1 < t144.length) = True := eq_true (by omega); (try rw [show ((1 : Int)).toNat = 1 from rfl] at hx156_0); replace p156 := eq_true p156; replace q156 := eq_true q156) | (go_at_call 100; (with_reducible refine (spec_l03Fixed.calls kj2 ((rdOf ByteArray.empty t144 1).extract 7 (rdOf ByteArray.empty t144 1).size) t157 true _ A22.out).mono ?_); rintro e w' ⟨rfl,⟨nd,rfl⟩⟩; (try first | exact ⟨rfl,_,World.drewN_drewN _ _ _⟩ | exact ⟨rfl,_,Eq.trans (World.drewN_drewN _ _ _) (congrArg (World.drewN _) (Nat.add_assoc _ _ _))⟩)) | (go_at_call 101; (with_reducible refine (spec_l03KeyOK.calls (wrap64 (t150 + (wrap64 (2 * t152)))) t154 t157 true _ A25.out).mono ?_); rintro e w' ⟨rfl,⟨nd,rfl⟩⟩; (try first | exact ⟨rfl,_,World.drewN_drewN _ _ _⟩ | exact ⟨rfl,_,Eq.trans (World.drewN_drewN _ _ _) (congrArg (World.drewN _) (Nat.add_assoc _ _ _))⟩)) | (go_at_call 102; (with_reducible refine (spec_l03Key.calls kj2 (wrap64 (t150 + (wrap64 (2 * t152)))) t154 t157 t160 _ A27.out).mono ?_); rintro e w30 ⟨rfl,hb⟩; have n0_ := Aside0.mk (Kd.R_below (by (with_reducible repeat (first | apply Kd.R_alloc | apply Kd.R_drewN | apply Kd.R_drew)); exact HO_6.out) hb); have n1_ := Aside0.mk (below_step (by repeat (first | (with_reducible first | exact HB.out | apply below_alloc | apply pw_below_drewN | apply below_drew1) | exact HB.out)) hb); clear HO_6; clear HB; have HO_6 := n0_; have HB := n1_; clear n0_ n1_; (try clear hb); (try clear hb2); (try clear hk); (try clear hi)))
             repeat (go_quiet (first | (go_at_call 47; (with_reducible refine (spec_l01Bit.calls ((rdOf ByteArray.empty t144 0).toList == ([116,49] : List UInt8)) t150 _ A15.out).mono ?_); rintro e w' ⟨rfl,⟨nd,rfl⟩⟩; (try first | exact ⟨rfl,_,World.drewN_drewN _ _ _⟩ | exact ⟨rfl,_,Eq.trans (World.drewN_drewN _ _ _) (congrArg (World.drewN _) (Nat.add_assoc _ _ _))⟩); have p151 : 0 ≤ (0 : Int) := (by omega); have q151 : 0 < (t144.length : Int) := of_decide_eq_true (by first | (with_reducible assumption) | assumption); obtain ⟨ad151,e151,hx151_0⟩ := Kd.at_string (Kd.R_reads' HO_6.out).2.2 0 p151 q151; obtain rfl : ad149 = ad151 := (by injection e151); have qi151 : (0 < t144.length) = True := eq_true (by omega); (try rw [show ((0 : Int)).toNat = 0 from rfl] at hx151_0); (try rw [Addr.add_zero'] at hx151_0); replace p151 := eq_true p151; replace q151 := eq_true q151) | (go_at_call 47; (with_reducible refine (spec_l01Bit.calls ((rdOf ByteArray.empty t144 0).toList == ([116,50] : List UInt8)) t152 _ A16.out).mono ?_); rintro e w' ⟨rfl,⟨nd,rfl⟩⟩; (try first | exact ⟨rfl,_,World.drewN_drewN _ _ _⟩ | exact ⟨rfl,_,Eq.trans (World.drewN_drewN _ _ _) (congrArg (World.drewN _) (Nat.add_assoc _ _ _))⟩); have p153 : 0 ≤ (1 : Int) := (by omega); have q153 : 1 < (t144.length : Int) := of_decide_eq_true (by first | (with_reducible assumption) | assumption); obtain ⟨ad153,e153,hx153_0⟩ := Kd.at_string (Kd.R_reads' HO_6.out).2.2 1 p153 q153; obtain rfl : ad149 = ad153 := (by injection e153); (try simp only [show (1 : Int).toNat = 1 from rfl,Nat.reduceMul,Nat.reduceEqDiff,Go.Addr.add,↓reduceIte] at hx153_0); have qi153 : (1 < t144.length) = True := eq_true (by omega); (try rw [show ((1 : Int)).toNat = 1 from rfl] at hx153_0); replace p153 := eq_true p153; replace q153 := eq_true q153) | (go_at_call 100; (with_reducible refine (spec_l03Fixed.calls kj2 ((rdOf ByteArray.empty t144 1).extract 0 6) t154 true _ A20.out).mono ?_); rintro e w' ⟨rfl,⟨nd,rfl⟩⟩; (try first | exact ⟨rfl,_,World.drewN_drewN _ _ _⟩ | exact ⟨rfl,_,Eq.trans (World.drewN_drewN _ _ _) (congrArg (World.drewN _) (Nat.add_assoc _ _ _))⟩); have p156 : 0 ≤ (1 : Int) := (by omega); have q156 : 1 < (t144.length : Int) := of_decide_eq_true (by first | (with_reducible assumption) | assumption); obtain ⟨ad156,e156,hx156_0⟩ := Kd.at_string (Kd.R_reads' HO_6.out).2.2 1 p156 q156; obtain rfl : ad149 = ad156 := (by injection e156); (try simp only [show (1 : Int).toNat = 1 from rfl,Nat.reduceMul,Nat.reduceEqDiff,Go.Addr.add,↓reduceIte] at hx156_0); have qi156 : (1 < t144.length) = True := eq_true (by omega); (try rw [show ((1 : Int)).toNat = 1 from rfl] at hx156_0); replace p156 := eq_true p156; replace q156 := eq_true q156) | (go_at_call 100; (with_reducible refine (spec_l03Fixed.calls kj2 ((rdOf ByteArray.empty t144 1).extract 7 (rdOf ByteArray.empty t144 1).size) t157 true _ A22.out).mono ?_); rintro e w' ⟨rfl,⟨nd,rfl⟩⟩; (try first | exact ⟨rfl,_,World.drewN_drewN _ _ _⟩ | exact ⟨rfl,_,Eq.trans (World.drewN_drewN _ _ _) (congrArg (World.drewN _) (Nat.add_assoc _ _ _))⟩)) | (go_at_call 101; (with_reducible refine (spec_l03KeyOK.calls (wrap64 (t150 + (wrap64 (2 * t152)))) t154 t157 true _ A25.out).mono ?_); rintro e w' ⟨rfl,⟨nd,rfl⟩⟩; (try first | exact ⟨rfl,_,World.drewN_drewN _ _ _⟩ | exact ⟨rfl,_,Eq.trans (World.drewN_drewN _ _ _) (congrArg (World.drewN _) (Nat.add_assoc _ _ _))⟩)) | (go_at_call 102; (with_reducible refine (spec_l03Key.calls kj2 (wrap64 (t150 + (wrap64 (2 * t152)))) t154 t157 t160 _ A27.out).mono ?_); rintro e w30 ⟨rfl,hb⟩; have n0_ := Aside0.mk (Kd.R_below (by (with_reducible repeat (first | apply Kd.R_alloc | apply Kd.R_drewN | apply Kd.R_drew)); exact HO_6.out) hb); have n1_ := Aside0.mk (below_step (by repeat (first | (with_reducible first | exact HB.out | apply below_alloc | apply pw_below_drewN | apply below_drew1) | exact HB.out)) hb); clear HO_6; clear HB; have HO_6 := n0_; have HB := n1_; clear n0_ n1_; (try clear hb); (try clear hb2); (try clear hk); (try clear hi))); try go_wp2_with (first | (go_at_call 47; (with_reducible refine (spec_l01Bit.calls ((rdOf ByteArray.empty t144 0).toList == ([116,49] : List UInt8)) t150 _ A15.out).mono ?_); rintro e w' ⟨rfl,⟨nd,rfl⟩⟩; (try first | exact ⟨rfl,_,World.drewN_drewN _ _ _⟩ | exact ⟨rfl,_,Eq.trans (World.drewN_drewN _ _ _) (congrArg (World.drewN _) (Nat.add_assoc _ _ _))⟩); have p151 : 0 ≤ (0 : Int) := (by omega); have q151 : 0 < (t144.length : Int) := of_decide_eq_true (by first | (with_reducible assumption) | assumption); obtain ⟨ad151,e151,hx151_0⟩ := Kd.at_string (Kd.R_reads' HO_6.out).2.2 0 p151 q151; obtain rfl : ad149 = ad151 := (by injection e151); have qi151 : (0 < t144.length) = True := eq_true (by omega); (try rw [show ((0 : Int)).toNat = 0 from rfl] at hx151_0); (try rw [Addr.add_zero'] at hx151_0); replace p151 := eq_true p151; replace q151 := eq_true q151) | (go_at_call 47; (with_reducible refine (spec_l01Bit.calls ((rdOf ByteArray.empty t144 0).toList == ([116,50] : List UInt8)) t152 _ A16.out).mono ?_); rintro e w' ⟨rfl,⟨nd,rfl⟩⟩; (try first | exact ⟨rfl,_,World.drewN_drewN _ _ _⟩ | exact ⟨rfl,_,Eq.trans (World.drewN_drewN _ _ _) (congrArg (World.drewN _) (Nat.add_assoc _ _ _))⟩); have p153 : 0 ≤ (1 : Int) := (by omega); have q153 : 1 < (t144.length : Int) := of_decide_eq_true (by first | (with_reducible assumption) | assumption); obtain ⟨ad153,e153,hx153_0⟩ := Kd.at_string (Kd.R_reads' HO_6.out).2.2 1 p153 q153; obtain rfl : ad149 = ad153 := (by injection e153); (try simp only [show (1 : Int).toNat = 1 from rfl,Nat.reduceMul,Nat.reduceEqDiff,Go.Addr.add,↓reduceIte] at hx153_0); have qi153 : (1 < t144.length) = True := eq_true (by omega); (try rw [show ((1 : Int)).toNat = 1 from rfl] at hx153_0); replace p153 := eq_true p153; replace q153 := eq_true q153) | (go_at_call 100; (with_reducible refine (spec_l03Fixed.calls kj2 ((rdOf ByteArray.empty t144 1).extract 0 6) t154 true _ A20.out).mono ?_); rintro e w' ⟨rfl,⟨nd,rfl⟩⟩; (try first | exact ⟨rfl,_,World.drewN_drewN _ _ _⟩ | exact ⟨rfl,_,Eq.trans (World.drewN_drewN _ _ _) (congrArg (World.drewN _) (Nat.add_assoc _ _ _))⟩); have p156 : 0 ≤ (1 : Int) := (by omega); have q156 : 1 < (t144.length : Int) := of_decide_eq_true (by first | (with_reducible assumption) | assumption); obtain ⟨ad156,e156,hx156_0⟩ := Kd.at_string (Kd.R_reads' HO_6.out).2.2 1 p156 q156; obtain rfl : ad149 = ad156 := (by injection e156); (try simp only [show (1 : Int).toNat = 1 from rfl,Nat.reduceMul,Nat.reduceEqDiff,Go.Addr.add,↓reduceIte] at hx156_0); have qi156 : (1 < t144.length) = True := eq_true (by omega); (try rw [show ((1 : Int)).toNat = 1 from rfl] at hx156_0); replace p156 := eq_true p156; replace q156 := eq_true q156) | (go_at_call 100; (with_reducible refine (spec_l03Fixed.calls kj2 ((rdOf ByteArray.empty t144 1).extract 7 (rdOf ByteArray.empty t144 1).size) t157 true _ A22.out).mono ?_); rintro e w' ⟨rfl,⟨nd,rfl⟩⟩; (try first | exact ⟨rfl,_,World.drewN_drewN _ _ _⟩ | exact ⟨rfl,_,Eq.trans (World.drewN_drewN _ _ _) (congrArg (World.drewN _) (Nat.add_assoc _ _ _))⟩)) | (go_at_call 101; (with_reducible refine (spec_l03KeyOK.calls (wrap64 (t150 + (wrap64 (2 * t152)))) t154 t157 true _ A25.out).mono ?_); rintro e w' ⟨rfl,⟨nd,rfl⟩⟩; (try first | exact ⟨rfl,_,World.drewN_drewN _ _ _⟩ | exact ⟨rfl,_,Eq.trans (World.drewN_drewN _ _ _) (congrArg (World.drewN _) (Nat.add_assoc _ _ _))⟩)) | (go_at_call 102; (with_reducible refine (spec_l03Key.calls kj2 (wrap64 (t150 + (wrap64 (2 * t152)))) t154 t157 t160 _ A27.out).mono ?_); rintro e w30 ⟨rfl,hb⟩; have n0_ := Aside0.mk (Kd.R_below (by (with_reducible repeat (first | apply Kd.R_alloc | apply Kd.R_drewN | apply Kd.R_drew)); exact HO_6.out) hb); have n1_ := Aside0.mk (below_step (by repeat (first | (with_reducible first | exact HB.out | apply below_alloc | apply pw_below_drewN | apply below_drew1) | exact HB.out)) hb); clear HO_6; clear HB; have HO_6 := n0_; have HB := n1_; clear n0_ n1_; (try clear hb); (try clear hb2); (try clear hk); (try clear hi))))
             refine bodyPost_ret (results_list (rs := [.tmp 2,.tmp 3,.tmp 4,.tmp 5]) rfl (by simp) (.tmp (.tmp (.tmp (.tmp .nil))))) rfl ?_
             exact ⟨by first | rfl | (simp only [i64_w,i32_w] <;> rfl) | (simp [errW_none,errW_some] <;> rfl) | (simp [*,errW_none,errW_some] <;> rfl),by repeat (first | (with_reducible first | exact HB.out | apply below_alloc | apply pw_below_drewN | apply below_drew1) | exact HB.out)⟩
            ·rw [if_neg c28] at H
             have c28b0 : (t160.toList == a0.toList) = false := beq_eq_false_iff_ne.mpr c28
             have c28b1 : (t160.toList != a0.toList) = true := bne_iff_ne.mpr c28
             simp only [Option.some.injEq,Prod.mk.injEq] at H
             obtain ⟨rfl,rfl,rfl,rfl⟩ := H
             obtain ⟨Ao31,co31,eo31⟩ := Kd.R_slice HO_6.out
             subst eo31
             have p149 : 0 ≤ (0 : Int) := (by omega)
             have q149 : 0 < (t144.length : Int) := of_decide_eq_true (by first | (with_reducible assumption) | assumption)
             obtain ⟨ad149,e149,hx149_0⟩ := Kd.at_string (Kd.R_reads' HO_6.out).2.2 0 p149 q149
             cases e149
             have qi149 : (0 < t144.length) = True := eq_true (by omega)
             (try rw [show ((0 : Int)).toNat = 0 from rfl] at hx149_0)
             (try rw [Addr.add_zero'] at hx149_0)
             replace p149 := eq_true p149
             replace q149 := eq_true q149
             go_wp2_with (first | (go_at_call 47; (with_reducible refine (spec_l01Bit.calls ((rdOf ByteArray.empty t144 0).toList == ([116,49] : List UInt8)) t150 _ A15.out).mono ?_); rintro e w' ⟨rfl,⟨nd,rfl⟩⟩; (try first | exact ⟨rfl,_,World.drewN_drewN _ _ _⟩ | exact ⟨rfl,_,Eq.trans (World.drewN_drewN _ _ _) (congrArg (World.drewN _) (Nat.add_assoc _ _ _))⟩); have p151 : 0 ≤ (0 : Int) := (by omega); have q151 : 0 < (t144.length : Int) := of_decide_eq_true (by first | (with_reducible assumption) | assumption); obtain ⟨ad151,e151,hx151_0⟩ := Kd.at_string (Kd.R_reads' HO_6.out).2.2 0 p151 q151; obtain rfl : ad149 = ad151 := (by injection e151); have qi151 : (0 < t144.length) = True := eq_true (by omega); (try rw [show ((0 : Int)).toNat = 0 from rfl] at hx151_0); (try rw [Addr.add_zero'] at hx151_0); replace p151 := eq_true p151; replace q151 := eq_true q151) | (go_at_call 47; (with_reducible refine (spec_l01Bit.calls ((rdOf ByteArray.empty t144 0).toList == ([116,50] : List UInt8)) t152 _ A16.out).mono ?_); rintro e w' ⟨rfl,⟨nd,rfl⟩⟩; (try first | exact ⟨rfl,_,World.drewN_drewN _ _ _⟩ | exact ⟨rfl,_,Eq.trans (World.drewN_drewN _ _ _) (congrArg (World.drewN _) (Nat.add_assoc _ _ _))⟩); have p153 : 0 ≤ (1 : Int) := (by omega); have q153 : 1 < (t144.length : Int) := of_decide_eq_true (by first | (with_reducible assumption) | assumption); obtain ⟨ad153,e153,hx153_0⟩ := Kd.at_string (Kd.R_reads' HO_6.out).2.2 1 p153 q153; obtain rfl : ad149 = ad153 := (by injection e153); (try simp only [show (1 : Int).toNat = 1 from rfl,Nat.reduceMul,Nat.reduceEqDiff,Go.Addr.add,↓reduceIte] at hx153_0); have qi153 : (1 < t144.length) = True := eq_true (by omega); (try rw [show ((1 : Int)).toNat = 1 from rfl] at hx153_0); replace p153 := eq_true p153; replace q153 := eq_true q153) | (go_at_call 100; (with_reducible refine (spec_l03Fixed.calls kj2 ((rdOf ByteArray.empty t144 1).extract 0 6) t154 true _ A20.out).mono ?_); rintro e w' ⟨rfl,⟨nd,rfl⟩⟩; (try first | exact ⟨rfl,_,World.drewN_drewN _ _ _⟩ | exact ⟨rfl,_,Eq.trans (World.drewN_drewN _ _ _) (congrArg (World.drewN _) (Nat.add_assoc _ _ _))⟩); have p156 : 0 ≤ (1 : Int) := (by omega); have q156 : 1 < (t144.length : Int) := of_decide_eq_true (by first | (with_reducible assumption) | assumption); obtain ⟨ad156,e156,hx156_0⟩ := Kd.at_string (Kd.R_reads' HO_6.out).2.2 1 p156 q156; obtain rfl : ad149 = ad156 := (by injection e156); (try simp only [show (1 : Int).toNat = 1 from rfl,Nat.reduceMul,Nat.reduceEqDiff,Go.Addr.add,↓reduceIte] at hx156_0); have qi156 : (1 < t144.length) = True := eq_true (by omega); (try rw [show ((1 : Int)).toNat = 1 from rfl] at hx156_0); replace p156 := eq_true p156; replace q156 := eq_true q156) | (go_at_call 100; (with_reducible refine (spec_l03Fixed.calls kj2 ((rdOf ByteArray.empty t144 1).extract 7 (rdOf ByteArray.empty t144 1).size) t157 true _ A22.out).mono ?_); rintro e w' ⟨rfl,⟨nd,rfl⟩⟩; (try first | exact ⟨rfl,_,World.drewN_drewN _ _ _⟩ | exact ⟨rfl,_,Eq.trans (World.drewN_drewN _ _ _) (congrArg (World.drewN _) (Nat.add_assoc _ _ _))⟩)) | (go_at_call 101; (with_reducible refine (spec_l03KeyOK.calls (wrap64 (t150 + (wrap64 (2 * t152)))) t154 t157 true _ A25.out).mono ?_); rintro e w' ⟨rfl,⟨nd,rfl⟩⟩; (try first | exact ⟨rfl,_,World.drewN_drewN _ _ _⟩ | exact ⟨rfl,_,Eq.trans (World.drewN_drewN _ _ _) (congrArg (World.drewN _) (Nat.add_assoc _ _ _))⟩)) | (go_at_call 102; (with_reducible refine (spec_l03Key.calls kj2 (wrap64 (t150 + (wrap64 (2 * t152)))) t154 t157 t160 _ A27.out).mono ?_); rintro e w32 ⟨rfl,hb⟩; have n0_ := Aside0.mk (Kd.R_below (by (with_reducible repeat (first | apply Kd.R_alloc | apply Kd.R_drewN | apply Kd.R_drew)); exact HO_6.out) hb); have n1_ := Aside0.mk (below_step (by repeat (first | (with_reducible first | exact HB.out | apply below_alloc | apply pw_below_drewN | apply below_drew1) | exact HB.out)) hb); clear HO_6; clear HB; have HO_6 := n0_; have HB := n1_; clear n0_ n1_; (try clear hb); (try clear hb2); (try clear hk); (try clear hi)))
             repeat (go_quiet (first | (go_at_call 47; (with_reducible refine (spec_l01Bit.calls ((rdOf ByteArray.empty t144 0).toList == ([116,49] : List UInt8)) t150 _ A15.out).mono ?_); rintro e w' ⟨rfl,⟨nd,rfl⟩⟩; (try first | exact ⟨rfl,_,World.drewN_drewN _ _ _⟩ | exact ⟨rfl,_,Eq.trans (World.drewN_drewN _ _ _) (congrArg (World.drewN _) (Nat.add_assoc _ _ _))⟩); have p151 : 0 ≤ (0 : Int) := (by omega); have q151 : 0 < (t144.length : Int) := of_decide_eq_true (by first | (with_reducible assumption) | assumption); obtain ⟨ad151,e151,hx151_0⟩ := Kd.at_string (Kd.R_reads' HO_6.out).2.2 0 p151 q151; obtain rfl : ad149 = ad151 := (by injection e151); have qi151 : (0 < t144.length) = True := eq_true (by omega); (try rw [show ((0 : Int)).toNat = 0 from rfl] at hx151_0); (try rw [Addr.add_zero'] at hx151_0); replace p151 := eq_true p151; replace q151 := eq_true q151) | (go_at_call 47; (with_reducible refine (spec_l01Bit.calls ((rdOf ByteArray.empty t144 0).toList == ([116,50] : List UInt8)) t152 _ A16.out).mono ?_); rintro e w' ⟨rfl,⟨nd,rfl⟩⟩; (try first | exact ⟨rfl,_,World.drewN_drewN _ _ _⟩ | exact ⟨rfl,_,Eq.trans (World.drewN_drewN _ _ _) (congrArg (World.drewN _) (Nat.add_assoc _ _ _))⟩); have p153 : 0 ≤ (1 : Int) := (by omega); have q153 : 1 < (t144.length : Int) := of_decide_eq_true (by first | (with_reducible assumption) | assumption); obtain ⟨ad153,e153,hx153_0⟩ := Kd.at_string (Kd.R_reads' HO_6.out).2.2 1 p153 q153; obtain rfl : ad149 = ad153 := (by injection e153); (try simp only [show (1 : Int).toNat = 1 from rfl,Nat.reduceMul,Nat.reduceEqDiff,Go.Addr.add,↓reduceIte] at hx153_0); have qi153 : (1 < t144.length) = True := eq_true (by omega); (try rw [show ((1 : Int)).toNat = 1 from rfl] at hx153_0); replace p153 := eq_true p153; replace q153 := eq_true q153) | (go_at_call 100; (with_reducible refine (spec_l03Fixed.calls kj2 ((rdOf ByteArray.empty t144 1).extract 0 6) t154 true _ A20.out).mono ?_); rintro e w' ⟨rfl,⟨nd,rfl⟩⟩; (try first | exact ⟨rfl,_,World.drewN_drewN _ _ _⟩ | exact ⟨rfl,_,Eq.trans (World.drewN_drewN _ _ _) (congrArg (World.drewN _) (Nat.add_assoc _ _ _))⟩); have p156 : 0 ≤ (1 : Int) := (by omega); have q156 : 1 < (t144.length : Int) := of_decide_eq_true (by first | (with_reducible assumption) | assumption); obtain ⟨ad156,e156,hx156_0⟩ := Kd.at_string (Kd.R_reads' HO_6.out).2.2 1 p156 q156; obtain rfl : ad149 = ad156 := (by injection e156); (try simp only [show (1 : Int).toNat = 1 from rfl,Nat.reduceMul,Nat.reduceEqDiff,Go.Addr.add,↓reduceIte] at hx156_0); have qi156 : (1 < t144.length) = True := eq_true (by omega); (try rw [show ((1 : Int)).toNat = 1 from rfl] at hx156_0); replace p156 := eq_true p156; replace q156 := eq_true q156) | (go_at_call 100; (with_reducible refine (spec_l03Fixed.calls kj2 ((rdOf ByteArray.empty t144 1).extract 7 (rdOf ByteArray.empty t144 1).size) t157 true _ A22.out).mono ?_); rintro e w' ⟨rfl,⟨nd,rfl⟩⟩; (try first | exact ⟨rfl,_,World.drewN_drewN _ _ _⟩ | exact ⟨rfl,_,Eq.trans (World.drewN_drewN _ _ _) (congrArg (World.drewN _) (Nat.add_assoc _ _ _))⟩)) | (go_at_call 101; (with_reducible refine (spec_l03KeyOK.calls (wrap64 (t150 + (wrap64 (2 * t152)))) t154 t157 true _ A25.out).mono ?_); rintro e w' ⟨rfl,⟨nd,rfl⟩⟩; (try first | exact ⟨rfl,_,World.drewN_drewN _ _ _⟩ | exact ⟨rfl,_,Eq.trans (World.drewN_drewN _ _ _) (congrArg (World.drewN _) (Nat.add_assoc _ _ _))⟩)) | (go_at_call 102; (with_reducible refine (spec_l03Key.calls kj2 (wrap64 (t150 + (wrap64 (2 * t152)))) t154 t157 t160 _ A27.out).mono ?_); rintro e w32 ⟨rfl,hb⟩; have n0_ := Aside0.mk (Kd.R_below (by (with_reducible repeat (first | apply Kd.R_alloc | apply Kd.R_drewN | apply Kd.R_drew)); exact HO_6.out) hb); have n1_ := Aside0.mk (below_step (by repeat (first | (with_reducible first | exact HB.out | apply below_alloc | apply pw_below_drewN | apply below_drew1) | exact HB.out)) hb); clear HO_6; clear HB; have HO_6 := n0_; have HB := n1_; clear n0_ n1_; (try clear hb); (try clear hb2); (try clear hk); (try clear hi))); try go_wp2_with (first | (go_at_call 47; (with_reducible refine (spec_l01Bit.calls ((rdOf ByteArray.empty t144 0).toList == ([116,49] : List UInt8)) t150 _ A15.out).mono ?_); rintro e w' ⟨rfl,⟨nd,rfl⟩⟩; (try first | exact ⟨rfl,_,World.drewN_drewN _ _ _⟩ | exact ⟨rfl,_,Eq.trans (World.drewN_drewN _ _ _) (congrArg (World.drewN _) (Nat.add_assoc _ _ _))⟩); have p151 : 0 ≤ (0 : Int) := (by omega); have q151 : 0 < (t144.length : Int) := of_decide_eq_true (by first | (with_reducible assumption) | assumption); obtain ⟨ad151,e151,hx151_0⟩ := Kd.at_string (Kd.R_reads' HO_6.out).2.2 0 p151 q151; obtain rfl : ad149 = ad151 := (by injection e151); have qi151 : (0 < t144.length) = True := eq_true (by omega); (try rw [show ((0 : Int)).toNat = 0 from rfl] at hx151_0); (try rw [Addr.add_zero'] at hx151_0); replace p151 := eq_true p151; replace q151 := eq_true q151) | (go_at_call 47; (with_reducible refine (spec_l01Bit.calls ((rdOf ByteArray.empty t144 0).toList == ([116,50] : List UInt8)) t152 _ A16.out).mono ?_); rintro e w' ⟨rfl,⟨nd,rfl⟩⟩; (try first | exact ⟨rfl,_,World.drewN_drewN _ _ _⟩ | exact ⟨rfl,_,Eq.trans (World.drewN_drewN _ _ _) (congrArg (World.drewN _) (Nat.add_assoc _ _ _))⟩); have p153 : 0 ≤ (1 : Int) := (by omega); have q153 : 1 < (t144.length : Int) := of_decide_eq_true (by first | (with_reducible assumption) | assumption); obtain ⟨ad153,e153,hx153_0⟩ := Kd.at_string (Kd.R_reads' HO_6.out).2.2 1 p153 q153; obtain rfl : ad149 = ad153 := (by injection e153); (try simp only [show (1 : Int).toNat = 1 from rfl,Nat.reduceMul,Nat.reduceEqDiff,Go.Addr.add,↓reduceIte] at hx153_0); have qi153 : (1 < t144.length) = True := eq_true (by omega); (try rw [show ((1 : Int)).toNat = 1 from rfl] at hx153_0); replace p153 := eq_true p153; replace q153 := eq_true q153) | (go_at_call 100; (with_reducible refine (spec_l03Fixed.calls kj2 ((rdOf ByteArray.empty t144 1).extract 0 6) t154 true _ A20.out).mono ?_); rintro e w' ⟨rfl,⟨nd,rfl⟩⟩; (try first | exact ⟨rfl,_,World.drewN_drewN _ _ _⟩ | exact ⟨rfl,_,Eq.trans (World.drewN_drewN _ _ _) (congrArg (World.drewN _) (Nat.add_assoc _ _ _))⟩); have p156 : 0 ≤ (1 : Int) := (by omega); have q156 : 1 < (t144.length : Int) := of_decide_eq_true (by first | (with_reducible assumption) | assumption); obtain ⟨ad156,e156,hx156_0⟩ := Kd.at_string (Kd.R_reads' HO_6.out).2.2 1 p156 q156; obtain rfl : ad149 = ad156 := (by injection e156); (try simp only [show (1 : Int).toNat = 1 from rfl,Nat.reduceMul,Nat.reduceEqDiff,Go.Addr.add,↓reduceIte] at hx156_0); have qi156 : (1 < t144.length) = True := eq_true (by omega); (try rw [show ((1 : Int)).toNat = 1 from rfl] at hx156_0); replace p156 := eq_true p156; replace q156 := eq_true q156) | (go_at_call 100; (with_reducible refine (spec_l03Fixed.calls kj2 ((rdOf ByteArray.empty t144 1).extract 7 (rdOf ByteArray.empty t144 1).size) t157 true _ A22.out).mono ?_); rintro e w' ⟨rfl,⟨nd,rfl⟩⟩; (try first | exact ⟨rfl,_,World.drewN_drewN _ _ _⟩ | exact ⟨rfl,_,Eq.trans (World.drewN_drewN _ _ _) (congrArg (World.drewN _) (Nat.add_assoc _ _ _))⟩)) | (go_at_call 101; (with_reducible refine (spec_l03KeyOK.calls (wrap64 (t150 + (wrap64 (2 * t152)))) t154 t157 true _ A25.out).mono ?_); rintro e w' ⟨rfl,⟨nd,rfl⟩⟩; (try first | exact ⟨rfl,_,World.drewN_drewN _ _ _⟩ | exact ⟨rfl,_,Eq.trans (World.drewN_drewN _ _ _) (congrArg (World.drewN _) (Nat.add_assoc _ _ _))⟩)) | (go_at_call 102; (with_reducible refine (spec_l03Key.calls kj2 (wrap64 (t150 + (wrap64 (2 * t152)))) t154 t157 t160 _ A27.out).mono ?_); rintro e w32 ⟨rfl,hb⟩; have n0_ := Aside0.mk (Kd.R_below (by (with_reducible repeat (first | apply Kd.R_alloc | apply Kd.R_drewN | apply Kd.R_drew)); exact HO_6.out) hb); have n1_ := Aside0.mk (below_step (by repeat (first | (with_reducible first | exact HB.out | apply below_alloc | apply pw_below_drewN | apply below_drew1) | exact HB.out)) hb); clear HO_6; clear HB; have HO_6 := n0_; have HB := n1_; clear n0_ n1_; (try clear hb); (try clear hb2); (try clear hk); (try clear hi))))
             refine bodyPost_ret (results_list (rs := [.tmp 2,.tmp 3,.tmp 4,.tmp 5]) rfl (by simp) (.tmp (.tmp (.tmp (.tmp .nil))))) rfl ?_
             exact ⟨by first | rfl | (simp only [i64_w,i32_w] <;> rfl) | (simp [errW_none,errW_some] <;> rfl) | (simp [*,errW_none,errW_some] <;> rfl),by repeat (first | (with_reducible first | exact HB.out | apply below_alloc | apply pw_below_drewN | apply below_drew1) | exact HB.out)⟩
           ·replace c26 := Bool.eq_false_iff.mpr c26
            subst c26
            have H1 : (some (0,0,0,false)) = some (r1,r2,r3,r4) := by rw [if_neg (show ¬ (false = true) by decide)] at H; exact H
            clear H
            have H := H1
            clear H1
            simp only [Option.some.injEq,Prod.mk.injEq] at H
            obtain ⟨rfl,rfl,rfl,rfl⟩ := H
            obtain ⟨Ao33,co33,eo33⟩ := Kd.R_slice HO_6.out
            subst eo33
            have p149 : 0 ≤ (0 : Int) := (by omega)
            have q149 : 0 < (t144.length : Int) := of_decide_eq_true (by first | (with_reducible assumption) | assumption)
            obtain ⟨ad149,e149,hx149_0⟩ := Kd.at_string (Kd.R_reads' HO_6.out).2.2 0 p149 q149
            cases e149
            have qi149 : (0 < t144.length) = True := eq_true (by omega)
            (try rw [show ((0 : Int)).toNat = 0 from rfl] at hx149_0)
            (try rw [Addr.add_zero'] at hx149_0)
            replace p149 := eq_true p149
            replace q149 := eq_true q149
            go_wp2_with (first | (go_at_call 47; (with_reducible refine (spec_l01Bit.calls ((rdOf ByteArray.empty t144 0).toList == ([116,49] : List UInt8)) t150 _ A15.out).mono ?_); rintro e w' ⟨rfl,⟨nd,rfl⟩⟩; (try first | exact ⟨rfl,_,World.drewN_drewN _ _ _⟩ | exact ⟨rfl,_,Eq.trans (World.drewN_drewN _ _ _) (congrArg (World.drewN _) (Nat.add_assoc _ _ _))⟩); have p151 : 0 ≤ (0 : Int) := (by omega); have q151 : 0 < (t144.length : Int) := of_decide_eq_true (by first | (with_reducible assumption) | assumption); obtain ⟨ad151,e151,hx151_0⟩ := Kd.at_string (Kd.R_reads' HO_6.out).2.2 0 p151 q151; obtain rfl : ad149 = ad151 := (by injection e151); have qi151 : (0 < t144.length) = True := eq_true (by omega); (try rw [show ((0 : Int)).toNat = 0 from rfl] at hx151_0); (try rw [Addr.add_zero'] at hx151_0); replace p151 := eq_true p151; replace q151 := eq_true q151) | (go_at_call 47; (with_reducible refine (spec_l01Bit.calls ((rdOf ByteArray.empty t144 0).toList == ([116,50] : List UInt8)) t152 _ A16.out).mono ?_); rintro e w' ⟨rfl,⟨nd,rfl⟩⟩; (try first | exact ⟨rfl,_,World.drewN_drewN _ _ _⟩ | exact ⟨rfl,_,Eq.trans (World.drewN_drewN _ _ _) (congrArg (World.drewN _) (Nat.add_assoc _ _ _))⟩); have p153 : 0 ≤ (1 : Int) := (by omega); have q153 : 1 < (t144.length : Int) := of_decide_eq_true (by first | (with_reducible assumption) | assumption); obtain ⟨ad153,e153,hx153_0⟩ := Kd.at_string (Kd.R_reads' HO_6.out).2.2 1 p153 q153; obtain rfl : ad149 = ad153 := (by injection e153); (try simp only [show (1 : Int).toNat = 1 from rfl,Nat.reduceMul,Nat.reduceEqDiff,Go.Addr.add,↓reduceIte] at hx153_0); have qi153 : (1 < t144.length) = True := eq_true (by omega); (try rw [show ((1 : Int)).toNat = 1 from rfl] at hx153_0); replace p153 := eq_true p153; replace q153 := eq_true q153) | (go_at_call 100; (with_reducible refine (spec_l03Fixed.calls kj2 ((rdOf ByteArray.empty t144 1).extract 0 6) t154 true _ A20.out).mono ?_); rintro e w' ⟨rfl,⟨nd,rfl⟩⟩; (try first | exact ⟨rfl,_,World.drewN_drewN _ _ _⟩ | exact ⟨rfl,_,Eq.trans (World.drewN_drewN _ _ _) (congrArg (World.drewN _) (Nat.add_assoc _ _ _))⟩); have p156 : 0 ≤ (1 : Int) := (by omega); have q156 : 1 < (t144.length : Int) := of_decide_eq_true (by first | (with_reducible assumption) | assumption); obtain ⟨ad156,e156,hx156_0⟩ := Kd.at_string (Kd.R_reads' HO_6.out).2.2 1 p156 q156; obtain rfl : ad149 = ad156 := (by injection e156); (try simp only [show (1 : Int).toNat = 1 from rfl,Nat.reduceMul,Nat.reduceEqDiff,Go.Addr.add,↓reduceIte] at hx156_0); have qi156 : (1 < t144.length) = True := eq_true (by omega); (try rw [show ((1 : Int)).toNat = 1 from rfl] at hx156_0); replace p156 := eq_true p156; replace q156 := eq_true q156) | (go_at_call 100; (with_reducible refine (spec_l03Fixed.calls kj2 ((rdOf ByteArray.empty t144 1).extract 7 (rdOf ByteArray.empty t144 1).size) t157 true _ A22.out).mono ?_); rintro e w' ⟨rfl,⟨nd,rfl⟩⟩; (try first | exact ⟨rfl,_,World.drewN_drewN _ _ _⟩ | exact ⟨rfl,_,Eq.trans (World.drewN_drewN _ _ _) (congrArg (World.drewN _) (Nat.add_assoc _ _ _))⟩)) | (go_at_call 101; (with_reducible refine (spec_l03KeyOK.calls (wrap64 (t150 + (wrap64 (2 * t152)))) t154 t157 false _ A25.out).mono ?_); rintro e w' ⟨rfl,⟨nd,rfl⟩⟩; (try first | exact ⟨rfl,_,World.drewN_drewN _ _ _⟩ | exact ⟨rfl,_,Eq.trans (World.drewN_drewN _ _ _) (congrArg (World.drewN _) (Nat.add_assoc _ _ _))⟩)))
            repeat (go_quiet (first | (go_at_call 47; (with_reducible refine (spec_l01Bit.calls ((rdOf ByteArray.empty t144 0).toList == ([116,49] : List UInt8)) t150 _ A15.out).mono ?_); rintro e w' ⟨rfl,⟨nd,rfl⟩⟩; (try first | exact ⟨rfl,_,World.drewN_drewN _ _ _⟩ | exact ⟨rfl,_,Eq.trans (World.drewN_drewN _ _ _) (congrArg (World.drewN _) (Nat.add_assoc _ _ _))⟩); have p151 : 0 ≤ (0 : Int) := (by omega); have q151 : 0 < (t144.length : Int) := of_decide_eq_true (by first | (with_reducible assumption) | assumption); obtain ⟨ad151,e151,hx151_0⟩ := Kd.at_string (Kd.R_reads' HO_6.out).2.2 0 p151 q151; obtain rfl : ad149 = ad151 := (by injection e151); have qi151 : (0 < t144.length) = True := eq_true (by omega); (try rw [show ((0 : Int)).toNat = 0 from rfl] at hx151_0); (try rw [Addr.add_zero'] at hx151_0); replace p151 := eq_true p151; replace q151 := eq_true q151) | (go_at_call 47; (with_reducible refine (spec_l01Bit.calls ((rdOf ByteArray.empty t144 0).toList == ([116,50] : List UInt8)) t152 _ A16.out).mono ?_); rintro e w' ⟨rfl,⟨nd,rfl⟩⟩; (try first | exact ⟨rfl,_,World.drewN_drewN _ _ _⟩ | exact ⟨rfl,_,Eq.trans (World.drewN_drewN _ _ _) (congrArg (World.drewN _) (Nat.add_assoc _ _ _))⟩); have p153 : 0 ≤ (1 : Int) := (by omega); have q153 : 1 < (t144.length : Int) := of_decide_eq_true (by first | (with_reducible assumption) | assumption); obtain ⟨ad153,e153,hx153_0⟩ := Kd.at_string (Kd.R_reads' HO_6.out).2.2 1 p153 q153; obtain rfl : ad149 = ad153 := (by injection e153); (try simp only [show (1 : Int).toNat = 1 from rfl,Nat.reduceMul,Nat.reduceEqDiff,Go.Addr.add,↓reduceIte] at hx153_0); have qi153 : (1 < t144.length) = True := eq_true (by omega); (try rw [show ((1 : Int)).toNat = 1 from rfl] at hx153_0); replace p153 := eq_true p153; replace q153 := eq_true q153) | (go_at_call 100; (with_reducible refine (spec_l03Fixed.calls kj2 ((rdOf ByteArray.empty t144 1).extract 0 6) t154 true _ A20.out).mono ?_); rintro e w' ⟨rfl,⟨nd,rfl⟩⟩; (try first | exact ⟨rfl,_,World.drewN_drewN _ _ _⟩ | exact ⟨rfl,_,Eq.trans (World.drewN_drewN _ _ _) (congrArg (World.drewN _) (Nat.add_assoc _ _ _))⟩); have p156 : 0 ≤ (1 : Int) := (by omega); have q156 : 1 < (t144.length : Int) := of_decide_eq_true (by first | (with_reducible assumption) | assumption); obtain ⟨ad156,e156,hx156_0⟩ := Kd.at_string (Kd.R_reads' HO_6.out).2.2 1 p156 q156; obtain rfl : ad149 = ad156 := (by injection e156); (try simp only [show (1 : Int).toNat = 1 from rfl,Nat.reduceMul,Nat.reduceEqDiff,Go.Addr.add,↓reduceIte] at hx156_0); have qi156 : (1 < t144.length) = True := eq_true (by omega); (try rw [show ((1 : Int)).toNat = 1 from rfl] at hx156_0); replace p156 := eq_true p156; replace q156 := eq_true q156) | (go_at_call 100; (with_reducible refine (spec_l03Fixed.calls kj2 ((rdOf ByteArray.empty t144 1).extract 7 (rdOf ByteArray.empty t144 1).size) t157 true _ A22.out).mono ?_); rintro e w' ⟨rfl,⟨nd,rfl⟩⟩; (try first | exact ⟨rfl,_,World.drewN_drewN _ _ _⟩ | exact ⟨rfl,_,Eq.trans (World.drewN_drewN _ _ _) (congrArg (World.drewN _) (Nat.add_assoc _ _ _))⟩)) | (go_at_call 101; (with_reducible refine (spec_l03KeyOK.calls (wrap64 (t150 + (wrap64 (2 * t152)))) t154 t157 false _ A25.out).mono ?_); rintro e w' ⟨rfl,⟨nd,rfl⟩⟩; (try first | exact ⟨rfl,_,World.drewN_drewN _ _ _⟩ | exact ⟨rfl,_,Eq.trans (World.drewN_drewN _ _ _) (congrArg (World.drewN _) (Nat.add_assoc _ _ _))⟩))); try go_wp2_with (first | (go_at_call 47; (with_reducible refine (spec_l01Bit.calls ((rdOf ByteArray.empty t144 0).toList == ([116,49] : List UInt8)) t150 _ A15.out).mono ?_); rintro e w' ⟨rfl,⟨nd,rfl⟩⟩; (try first | exact ⟨rfl,_,World.drewN_drewN _ _ _⟩ | exact ⟨rfl,_,Eq.trans (World.drewN_drewN _ _ _) (congrArg (World.drewN _) (Nat.add_assoc _ _ _))⟩); have p151 : 0 ≤ (0 : Int) := (by omega); have q151 : 0 < (t144.length : Int) := of_decide_eq_true (by first | (with_reducible assumption) | assumption); obtain ⟨ad151,e151,hx151_0⟩ := Kd.at_string (Kd.R_reads' HO_6.out).2.2 0 p151 q151; obtain rfl : ad149 = ad151 := (by injection e151); have qi151 : (0 < t144.length) = True := eq_true (by omega); (try rw [show ((0 : Int)).toNat = 0 from rfl] at hx151_0); (try rw [Addr.add_zero'] at hx151_0); replace p151 := eq_true p151; replace q151 := eq_true q151) | (go_at_call 47; (with_reducible refine (spec_l01Bit.calls ((rdOf ByteArray.empty t144 0).toList == ([116,50] : List UInt8)) t152 _ A16.out).mono ?_); rintro e w' ⟨rfl,⟨nd,rfl⟩⟩; (try first | exact ⟨rfl,_,World.drewN_drewN _ _ _⟩ | exact ⟨rfl,_,Eq.trans (World.drewN_drewN _ _ _) (congrArg (World.drewN _) (Nat.add_assoc _ _ _))⟩); have p153 : 0 ≤ (1 : Int) := (by omega); have q153 : 1 < (t144.length : Int) := of_decide_eq_true (by first | (with_reducible assumption) | assumption); obtain ⟨ad153,e153,hx153_0⟩ := Kd.at_string (Kd.R_reads' HO_6.out).2.2 1 p153 q153; obtain rfl : ad149 = ad153 := (by injection e153); (try simp only [show (1 : Int).toNat = 1 from rfl,Nat.reduceMul,Nat.reduceEqDiff,Go.Addr.add,↓reduceIte] at hx153_0); have qi153 : (1 < t144.length) = True := eq_true (by omega); (try rw [show ((1 : Int)).toNat = 1 from rfl] at hx153_0); replace p153 := eq_true p153; replace q153 := eq_true q153) | (go_at_call 100; (with_reducible refine (spec_l03Fixed.calls kj2 ((rdOf ByteArray.empty t144 1).extract 0 6) t154 true _ A20.out).mono ?_); rintro e w' ⟨rfl,⟨nd,rfl⟩⟩; (try first | exact ⟨rfl,_,World.drewN_drewN _ _ _⟩ | exact ⟨rfl,_,Eq.trans (World.drewN_drewN _ _ _) (congrArg (World.drewN _) (Nat.add_assoc _ _ _))⟩); have p156 : 0 ≤ (1 : Int) := (by omega); have q156 : 1 < (t144.length : Int) := of_decide_eq_true (by first | (with_reducible assumption) | assumption); obtain ⟨ad156,e156,hx156_0⟩ := Kd.at_string (Kd.R_reads' HO_6.out).2.2 1 p156 q156; obtain rfl : ad149 = ad156 := (by injection e156); (try simp only [show (1 : Int).toNat = 1 from rfl,Nat.reduceMul,Nat.reduceEqDiff,Go.Addr.add,↓reduceIte] at hx156_0); have qi156 : (1 < t144.length) = True := eq_true (by omega); (try rw [show ((1 : Int)).toNat = 1 from rfl] at hx156_0); replace p156 := eq_true p156; replace q156 := eq_true q156) | (go_at_call 100; (with_reducible refine (spec_l03Fixed.calls kj2 ((rdOf ByteArray.empty t144 1).extract 7 (rdOf ByteArray.empty t144 1).size) t157 true _ A22.out).mono ?_); rintro e w' ⟨rfl,⟨nd,rfl⟩⟩; (try first | exact ⟨rfl,_,World.drewN_drewN _ _ _⟩ | exact ⟨rfl,_,Eq.trans (World.drewN_drewN _ _ _) (congrArg (World.drewN _) (Nat.add_assoc _ _ _))⟩)) | (go_at_call 101; (with_reducible refine (spec_l03KeyOK.calls (wrap64 (t150 + (wrap64 (2 * t152)))) t154 t157 false _ A25.out).mono ?_); rintro e w' ⟨rfl,⟨nd,rfl⟩⟩; (try first | exact ⟨rfl,_,World.drewN_drewN _ _ _⟩ | exact ⟨rfl,_,Eq.trans (World.drewN_drewN _ _ _) (congrArg (World.drewN _) (Nat.add_assoc _ _ _))⟩))))
            refine bodyPost_ret (results_list (rs := [.tmp 2,.tmp 3,.tmp 4,.tmp 5]) rfl (by simp) (.tmp (.tmp (.tmp (.tmp .nil))))) rfl ?_
            exact ⟨by first | rfl | (simp only [i64_w,i32_w] <;> rfl) | (simp [errW_none,errW_some] <;> rfl) | (simp [*,errW_none,errW_some] <;> rfl),by repeat (first | (with_reducible first | exact HB.out | apply below_alloc | apply pw_below_drewN | apply below_drew1) | exact HB.out)⟩
          ·replace c24 := Bool.eq_false_iff.mpr c24
           subst c24
           have H1 : (some (0,0,0,false)) = some (r1,r2,r3,r4) := by rw [if_neg (show ¬ (false = true) by decide)] at H; exact H
           clear H
           have H := H1
           clear H1
           simp only [Option.some.injEq,Prod.mk.injEq] at H
           obtain ⟨rfl,rfl,rfl,rfl⟩ := H
           obtain ⟨Ao34,co34,eo34⟩ := Kd.R_slice HO_6.out
           subst eo34
           have p149 : 0 ≤ (0 : Int) := (by omega)
           have q149 : 0 < (t144.length : Int) := of_decide_eq_true (by first | (with_reducible assumption) | assumption)
           obtain ⟨ad149,e149,hx149_0⟩ := Kd.at_string (Kd.R_reads' HO_6.out).2.2 0 p149 q149
           cases e149
           have qi149 : (0 < t144.length) = True := eq_true (by omega)
           (try rw [show ((0 : Int)).toNat = 0 from rfl] at hx149_0)
           (try rw [Addr.add_zero'] at hx149_0)
           replace p149 := eq_true p149
           replace q149 := eq_true q149
           go_wp2_with (first | (go_at_call 47; (with_reducible refine (spec_l01Bit.calls ((rdOf ByteArray.empty t144 0).toList == ([116,49] : List UInt8)) t150 _ A15.out).mono ?_); rintro e w' ⟨rfl,⟨nd,rfl⟩⟩; (try first | exact ⟨rfl,_,World.drewN_drewN _ _ _⟩ | exact ⟨rfl,_,Eq.trans (World.drewN_drewN _ _ _) (congrArg (World.drewN _) (Nat.add_assoc _ _ _))⟩); have p151 : 0 ≤ (0 : Int) := (by omega); have q151 : 0 < (t144.length : Int) := of_decide_eq_true (by first | (with_reducible assumption) | assumption); obtain ⟨ad151,e151,hx151_0⟩ := Kd.at_string (Kd.R_reads' HO_6.out).2.2 0 p151 q151; obtain rfl : ad149 = ad151 := (by injection e151); have qi151 : (0 < t144.length) = True := eq_true (by omega); (try rw [show ((0 : Int)).toNat = 0 from rfl] at hx151_0); (try rw [Addr.add_zero'] at hx151_0); replace p151 := eq_true p151; replace q151 := eq_true q151) | (go_at_call 47; (with_reducible refine (spec_l01Bit.calls ((rdOf ByteArray.empty t144 0).toList == ([116,50] : List UInt8)) t152 _ A16.out).mono ?_); rintro e w' ⟨rfl,⟨nd,rfl⟩⟩; (try first | exact ⟨rfl,_,World.drewN_drewN _ _ _⟩ | exact ⟨rfl,_,Eq.trans (World.drewN_drewN _ _ _) (congrArg (World.drewN _) (Nat.add_assoc _ _ _))⟩); have p153 : 0 ≤ (1 : Int) := (by omega); have q153 : 1 < (t144.length : Int) := of_decide_eq_true (by first | (with_reducible assumption) | assumption); obtain ⟨ad153,e153,hx153_0⟩ := Kd.at_string (Kd.R_reads' HO_6.out).2.2 1 p153 q153; obtain rfl : ad149 = ad153 := (by injection e153); (try simp only [show (1 : Int).toNat = 1 from rfl,Nat.reduceMul,Nat.reduceEqDiff,Go.Addr.add,↓reduceIte] at hx153_0); have qi153 : (1 < t144.length) = True := eq_true (by omega); (try rw [show ((1 : Int)).toNat = 1 from rfl] at hx153_0); replace p153 := eq_true p153; replace q153 := eq_true q153) | (go_at_call 100; (with_reducible refine (spec_l03Fixed.calls kj2 ((rdOf ByteArray.empty t144 1).extract 0 6) t154 true _ A20.out).mono ?_); rintro e w' ⟨rfl,⟨nd,rfl⟩⟩; (try first | exact ⟨rfl,_,World.drewN_drewN _ _ _⟩ | exact ⟨rfl,_,Eq.trans (World.drewN_drewN _ _ _) (congrArg (World.drewN _) (Nat.add_assoc _ _ _))⟩); have p156 : 0 ≤ (1 : Int) := (by omega); have q156 : 1 < (t144.length : Int) := of_decide_eq_true (by first | (with_reducible assumption) | assumption); obtain ⟨ad156,e156,hx156_0⟩ := Kd.at_string (Kd.R_reads' HO_6.out).2.2 1 p156 q156; obtain rfl : ad149 = ad156 := (by injection e156); (try simp only [show (1 : Int).toNat = 1 from rfl,Nat.reduceMul,Nat.reduceEqDiff,Go.Addr.add,↓reduceIte] at hx156_0); have qi156 : (1 < t144.length) = True := eq_true (by omega); (try rw [show ((1 : Int)).toNat = 1 from rfl] at hx156_0); replace p156 := eq_true p156; replace q156 := eq_true q156) | (go_at_call 100; (with_reducible refine (spec_l03Fixed.calls kj2 ((rdOf ByteArray.empty t144 1).extract 7 (rdOf ByteArray.empty t144 1).size) t157 false _ A22.out).mono ?_); rintro e w' ⟨rfl,⟨nd,rfl⟩⟩; (try first | exact ⟨rfl,_,World.drewN_drewN _ _ _⟩ | exact ⟨rfl,_,Eq.trans (World.drewN_drewN _ _ _) (congrArg (World.drewN _) (Nat.add_assoc _ _ _))⟩)))
           repeat (go_quiet (first | (go_at_call 47; (with_reducible refine (spec_l01Bit.calls ((rdOf ByteArray.empty t144 0).toList == ([116,49] : List UInt8)) t150 _ A15.out).mono ?_); rintro e w' ⟨rfl,⟨nd,rfl⟩⟩; (try first | exact ⟨rfl,_,World.drewN_drewN _ _ _⟩ | exact ⟨rfl,_,Eq.trans (World.drewN_drewN _ _ _) (congrArg (World.drewN _) (Nat.add_assoc _ _ _))⟩); have p151 : 0 ≤ (0 : Int) := (by omega); have q151 : 0 < (t144.length : Int) := of_decide_eq_true (by first | (with_reducible assumption) | assumption); obtain ⟨ad151,e151,hx151_0⟩ := Kd.at_string (Kd.R_reads' HO_6.out).2.2 0 p151 q151; obtain rfl : ad149 = ad151 := (by injection e151); have qi151 : (0 < t144.length) = True := eq_true (by omega); (try rw [show ((0 : Int)).toNat = 0 from rfl] at hx151_0); (try rw [Addr.add_zero'] at hx151_0); replace p151 := eq_true p151; replace q151 := eq_true q151) | (go_at_call 47; (with_reducible refine (spec_l01Bit.calls ((rdOf ByteArray.empty t144 0).toList == ([116,50] : List UInt8)) t152 _ A16.out).mono ?_); rintro e w' ⟨rfl,⟨nd,rfl⟩⟩; (try first | exact ⟨rfl,_,World.drewN_drewN _ _ _⟩ | exact ⟨rfl,_,Eq.trans (World.drewN_drewN _ _ _) (congrArg (World.drewN _) (Nat.add_assoc _ _ _))⟩); have p153 : 0 ≤ (1 : Int) := (by omega); have q153 : 1 < (t144.length : Int) := of_decide_eq_true (by first | (with_reducible assumption) | assumption); obtain ⟨ad153,e153,hx153_0⟩ := Kd.at_string (Kd.R_reads' HO_6.out).2.2 1 p153 q153; obtain rfl : ad149 = ad153 := (by injection e153); (try simp only [show (1 : Int).toNat = 1 from rfl,Nat.reduceMul,Nat.reduceEqDiff,Go.Addr.add,↓reduceIte] at hx153_0); have qi153 : (1 < t144.length) = True := eq_true (by omega); (try rw [show ((1 : Int)).toNat = 1 from rfl] at hx153_0); replace p153 := eq_true p153; replace q153 := eq_true q153) | (go_at_call 100; (with_reducible refine (spec_l03Fixed.calls kj2 ((rdOf ByteArray.empty t144 1).extract 0 6) t154 true _ A20.out).mono ?_); rintro e w' ⟨rfl,⟨nd,rfl⟩⟩; (try first | exact ⟨rfl,_,World.drewN_drewN _ _ _⟩ | exact ⟨rfl,_,Eq.trans (World.drewN_drewN _ _ _) (congrArg (World.drewN _) (Nat.add_assoc _ _ _))⟩); have p156 : 0 ≤ (1 : Int) := (by omega); have q156 : 1 < (t144.length : Int) := of_decide_eq_true (by first | (with_reducible assumption) | assumption); obtain ⟨ad156,e156,hx156_0⟩ := Kd.at_string (Kd.R_reads' HO_6.out).2.2 1 p156 q156; obtain rfl : ad149 = ad156 := (by injection e156); (try simp only [show (1 : Int).toNat = 1 from rfl,Nat.reduceMul,Nat.reduceEqDiff,Go.Addr.add,↓reduceIte] at hx156_0); have qi156 : (1 < t144.length) = True := eq_true (by omega); (try rw [show ((1 : Int)).toNat = 1 from rfl] at hx156_0); replace p156 := eq_true p156; replace q156 := eq_true q156) | (go_at_call 100; (with_reducible refine (spec_l03Fixed.calls kj2 ((rdOf ByteArray.empty t144 1).extract 7 (rdOf ByteArray.empty t144 1).size) t157 false _ A22.out).mono ?_); rintro e w' ⟨rfl,⟨nd,rfl⟩⟩; (try first | exact ⟨rfl,_,World.drewN_drewN _ _ _⟩ | exact ⟨rfl,_,Eq.trans (World.drewN_drewN _ _ _) (congrArg (World.drewN _) (Nat.add_assoc _ _ _))⟩))); try go_wp2_with (first | (go_at_call 47; (with_reducible refine (spec_l01Bit.calls ((rdOf ByteArray.empty t144 0).toList == ([116,49] : List UInt8)) t150 _ A15.out).mono ?_); rintro e w' ⟨rfl,⟨nd,rfl⟩⟩; (try first | exact ⟨rfl,_,World.drewN_drewN _ _ _⟩ | exact ⟨rfl,_,Eq.trans (World.drewN_drewN _ _ _) (congrArg (World.drewN _) (Nat.add_assoc _ _ _))⟩); have p151 : 0 ≤ (0 : Int) := (by omega); have q151 : 0 < (t144.length : Int) := of_decide_eq_true (by first | (with_reducible assumption) | assumption); obtain ⟨ad151,e151,hx151_0⟩ := Kd.at_string (Kd.R_reads' HO_6.out).2.2 0 p151 q151; obtain rfl : ad149 = ad151 := (by injection e151); have qi151 : (0 < t144.length) = True := eq_true (by omega); (try rw [show ((0 : Int)).toNat = 0 from rfl] at hx151_0); (try rw [Addr.add_zero'] at hx151_0); replace p151 := eq_true p151; replace q151 := eq_true q151) | (go_at_call 47; (with_reducible refine (spec_l01Bit.calls ((rdOf ByteArray.empty t144 0).toList == ([116,50] : List UInt8)) t152 _ A16.out).mono ?_); rintro e w' ⟨rfl,⟨nd,rfl⟩⟩; (try first | exact ⟨rfl,_,World.drewN_drewN _ _ _⟩ | exact ⟨rfl,_,Eq.trans (World.drewN_drewN _ _ _) (congrArg (World.drewN _) (Nat.add_assoc _ _ _))⟩); have p153 : 0 ≤ (1 : Int) := (by omega); have q153 : 1 < (t144.length : Int) := of_decide_eq_true (by first | (with_reducible assumption) | assumption); obtain ⟨ad153,e153,hx153_0⟩ := Kd.at_string (Kd.R_reads' HO_6.out).2.2 1 p153 q153; obtain rfl : ad149 = ad153 := (by injection e153); (try simp only [show (1 : Int).toNat = 1 from rfl,Nat.reduceMul,Nat.reduceEqDiff,Go.Addr.add,↓reduceIte] at hx153_0); have qi153 : (1 < t144.length) = True := eq_true (by omega); (try rw [show ((1 : Int)).toNat = 1 from rfl] at hx153_0); replace p153 := eq_true p153; replace q153 := eq_true q153) | (go_at_call 100; (with_reducible refine (spec_l03Fixed.calls kj2 ((rdOf ByteArray.empty t144 1).extract 0 6) t154 true _ A20.out).mono ?_); rintro e w' ⟨rfl,⟨nd,rfl⟩⟩; (try first | exact ⟨rfl,_,World.drewN_drewN _ _ _⟩ | exact ⟨rfl,_,Eq.trans (World.drewN_drewN _ _ _) (congrArg (World.drewN _) (Nat.add_assoc _ _ _))⟩); have p156 : 0 ≤ (1 : Int) := (by omega); have q156 : 1 < (t144.length : Int) := of_decide_eq_true (by first | (with_reducible assumption) | assumption); obtain ⟨ad156,e156,hx156_0⟩ := Kd.at_string (Kd.R_reads' HO_6.out).2.2 1 p156 q156; obtain rfl : ad149 = ad156 := (by injection e156); (try simp only [show (1 : Int).toNat = 1 from rfl,Nat.reduceMul,Nat.reduceEqDiff,Go.Addr.add,↓reduceIte] at hx156_0); have qi156 : (1 < t144.length) = True := eq_true (by omega); (try rw [show ((1 : Int)).toNat = 1 from rfl] at hx156_0); replace p156 := eq_true p156; replace q156 := eq_true q156) | (go_at_call 100; (with_reducible refine (spec_l03Fixed.calls kj2 ((rdOf ByteArray.empty t144 1).extract 7 (rdOf ByteArray.empty t144 1).size) t157 false _ A22.out).mono ?_); rintro e w' ⟨rfl,⟨nd,rfl⟩⟩; (try first | exact ⟨rfl,_,World.drewN_drewN _ _ _⟩ | exact ⟨rfl,_,Eq.trans (World.drewN_drewN _ _ _) (congrArg (World.drewN _) (Nat.add_assoc _ _ _))⟩))))
           refine bodyPost_ret (results_list (rs := [.tmp 2,.tmp 3,.tmp 4,.tmp 5]) rfl (by simp) (.tmp (.tmp (.tmp (.tmp .nil))))) rfl ?_
           exact ⟨by first | rfl | (simp only [i64_w,i32_w] <;> rfl) | (simp [errW_none,errW_some] <;> rfl) | (simp [*,errW_none,errW_some] <;> rfl),by repeat (first | (with_reducible first | exact HB.out | apply below_alloc | apply pw_below_drewN | apply below_drew1) | exact HB.out)⟩
         ·replace c23 := Bool.eq_false_iff.mpr c23
          subst c23
          have H1 : (some (0,0,0,false)) = some (r1,r2,r3,r4) := by rw [if_neg (show ¬ (false = true) by decide)] at H; exact H
          clear H
          have H := H1
          clear H1
          simp only [Option.some.injEq,Prod.mk.injEq] at H
          obtain ⟨rfl,rfl,rfl,rfl⟩ := H
          obtain ⟨Ao35,co35,eo35⟩ := Kd.R_slice HO_6.out
          subst eo35
          have p149 : 0 ≤ (0 : Int) := (by omega)
          have q149 : 0 < (t144.length : Int) := of_decide_eq_true (by first | (with_reducible assumption) | assumption)
          obtain ⟨ad149,e149,hx149_0⟩ := Kd.at_string (Kd.R_reads' HO_6.out).2.2 0 p149 q149
          cases e149
          have qi149 : (0 < t144.length) = True := eq_true (by omega)
          (try rw [show ((0 : Int)).toNat = 0 from rfl] at hx149_0)
          (try rw [Addr.add_zero'] at hx149_0)
          replace p149 := eq_true p149
          replace q149 := eq_true q149
          go_wp2_with (first | (go_at_call 47; (with_reducible refine (spec_l01Bit.calls ((rdOf ByteArray.empty t144 0).toList == ([116,49] : List UInt8)) t150 _ A15.out).mono ?_); rintro e w' ⟨rfl,⟨nd,rfl⟩⟩; (try first | exact ⟨rfl,_,World.drewN_drewN _ _ _⟩ | exact ⟨rfl,_,Eq.trans (World.drewN_drewN _ _ _) (congrArg (World.drewN _) (Nat.add_assoc _ _ _))⟩); have p151 : 0 ≤ (0 : Int) := (by omega); have q151 : 0 < (t144.length : Int) := of_decide_eq_true (by first | (with_reducible assumption) | assumption); obtain ⟨ad151,e151,hx151_0⟩ := Kd.at_string (Kd.R_reads' HO_6.out).2.2 0 p151 q151; obtain rfl : ad149 = ad151 := (by injection e151); have qi151 : (0 < t144.length) = True := eq_true (by omega); (try rw [show ((0 : Int)).toNat = 0 from rfl] at hx151_0); (try rw [Addr.add_zero'] at hx151_0); replace p151 := eq_true p151; replace q151 := eq_true q151) | (go_at_call 47; (with_reducible refine (spec_l01Bit.calls ((rdOf ByteArray.empty t144 0).toList == ([116,50] : List UInt8)) t152 _ A16.out).mono ?_); rintro e w' ⟨rfl,⟨nd,rfl⟩⟩; (try first | exact ⟨rfl,_,World.drewN_drewN _ _ _⟩ | exact ⟨rfl,_,Eq.trans (World.drewN_drewN _ _ _) (congrArg (World.drewN _) (Nat.add_assoc _ _ _))⟩); have p153 : 0 ≤ (1 : Int) := (by omega); have q153 : 1 < (t144.length : Int) := of_decide_eq_true (by first | (with_reducible assumption) | assumption); obtain ⟨ad153,e153,hx153_0⟩ := Kd.at_string (Kd.R_reads' HO_6.out).2.2 1 p153 q153; obtain rfl : ad149 = ad153 := (by injection e153); (try simp only [show (1 : Int).toNat = 1 from rfl,Nat.reduceMul,Nat.reduceEqDiff,Go.Addr.add,↓reduceIte] at hx153_0); have qi153 : (1 < t144.length) = True := eq_true (by omega); (try rw [show ((1 : Int)).toNat = 1 from rfl] at hx153_0); replace p153 := eq_true p153; replace q153 := eq_true q153) | (go_at_call 100; (with_reducible refine (spec_l03Fixed.calls kj2 ((rdOf ByteArray.empty t144 1).extract 0 6) t154 false _ A20.out).mono ?_); rintro e w' ⟨rfl,⟨nd,rfl⟩⟩; (try first | exact ⟨rfl,_,World.drewN_drewN _ _ _⟩ | exact ⟨rfl,_,Eq.trans (World.drewN_drewN _ _ _) (congrArg (World.drewN _) (Nat.add_assoc _ _ _))⟩); have p156 : 0 ≤ (1 : Int) := (by omega); have q156 : 1 < (t144.length : Int) := of_decide_eq_true (by first | (with_reducible assumption) | assumption); obtain ⟨ad156,e156,hx156_0⟩ := Kd.at_string (Kd.R_reads' HO_6.out).2.2 1 p156 q156; obtain rfl : ad149 = ad156 := (by injection e156); (try simp only [show (1 : Int).toNat = 1 from rfl,Nat.reduceMul,Nat.reduceEqDiff,Go.Addr.add,↓reduceIte] at hx156_0); have qi156 : (1 < t144.length) = True := eq_true (by omega); (try rw [show ((1 : Int)).toNat = 1 from rfl] at hx156_0); replace p156 := eq_true p156; replace q156 := eq_true q156) | (go_at_call 100; (with_reducible refine (spec_l03Fixed.calls kj2 ((rdOf ByteArray.empty t144 1).extract 7 (rdOf ByteArray.empty t144 1).size) t157 t158 _ A22.out).mono ?_); rintro e w' ⟨rfl,⟨nd,rfl⟩⟩; (try first | exact ⟨rfl,_,World.drewN_drewN _ _ _⟩ | exact ⟨rfl,_,Eq.trans (World.drewN_drewN _ _ _) (congrArg (World.drewN _) (Nat.add_assoc _ _ _))⟩)))
          repeat (go_quiet (first | (go_at_call 47; (with_reducible refine (spec_l01Bit.calls ((rdOf ByteArray.empty t144 0).toList == ([116,49] : List UInt8)) t150 _ A15.out).mono ?_); rintro e w' ⟨rfl,⟨nd,rfl⟩⟩; (try first | exact ⟨rfl,_,World.drewN_drewN _ _ _⟩ | exact ⟨rfl,_,Eq.trans (World.drewN_drewN _ _ _) (congrArg (World.drewN _) (Nat.add_assoc _ _ _))⟩); have p151 : 0 ≤ (0 : Int) := (by omega); have q151 : 0 < (t144.length : Int) := of_decide_eq_true (by first | (with_reducible assumption) | assumption); obtain ⟨ad151,e151,hx151_0⟩ := Kd.at_string (Kd.R_reads' HO_6.out).2.2 0 p151 q151; obtain rfl : ad149 = ad151 := (by injection e151); have qi151 : (0 < t144.length) = True := eq_true (by omega); (try rw [show ((0 : Int)).toNat = 0 from rfl] at hx151_0); (try rw [Addr.add_zero'] at hx151_0); replace p151 := eq_true p151; replace q151 := eq_true q151) | (go_at_call 47; (with_reducible refine (spec_l01Bit.calls ((rdOf ByteArray.empty t144 0).toList == ([116,50] : List UInt8)) t152 _ A16.out).mono ?_); rintro e w' ⟨rfl,⟨nd,rfl⟩⟩; (try first | exact ⟨rfl,_,World.drewN_drewN _ _ _⟩ | exact ⟨rfl,_,Eq.trans (World.drewN_drewN _ _ _) (congrArg (World.drewN _) (Nat.add_assoc _ _ _))⟩); have p153 : 0 ≤ (1 : Int) := (by omega); have q153 : 1 < (t144.length : Int) := of_decide_eq_true (by first | (with_reducible assumption) | assumption); obtain ⟨ad153,e153,hx153_0⟩ := Kd.at_string (Kd.R_reads' HO_6.out).2.2 1 p153 q153; obtain rfl : ad149 = ad153 := (by injection e153); (try simp only [show (1 : Int).toNat = 1 from rfl,Nat.reduceMul,Nat.reduceEqDiff,Go.Addr.add,↓reduceIte] at hx153_0); have qi153 : (1 < t144.length) = True := eq_true (by omega); (try rw [show ((1 : Int)).toNat = 1 from rfl] at hx153_0); replace p153 := eq_true p153; replace q153 := eq_true q153) | (go_at_call 100; (with_reducible refine (spec_l03Fixed.calls kj2 ((rdOf ByteArray.empty t144 1).extract 0 6) t154 false _ A20.out).mono ?_); rintro e w' ⟨rfl,⟨nd,rfl⟩⟩; (try first | exact ⟨rfl,_,World.drewN_drewN _ _ _⟩ | exact ⟨rfl,_,Eq.trans (World.drewN_drewN _ _ _) (congrArg (World.drewN _) (Nat.add_assoc _ _ _))⟩); have p156 : 0 ≤ (1 : Int) := (by omega); have q156 : 1 < (t144.length : Int) := of_decide_eq_true (by first | (with_reducible assumption) | assumption); obtain ⟨ad156,e156,hx156_0⟩ := Kd.at_string (Kd.R_reads' HO_6.out).2.2 1 p156 q156; obtain rfl : ad149 = ad156 := (by injection e156); (try simp only [show (1 : Int).toNat = 1 from rfl,Nat.reduceMul,Nat.reduceEqDiff,Go.Addr.add,↓reduceIte] at hx156_0); have qi156 : (1 < t144.length) = True := eq_true (by omega); (try rw [show ((1 : Int)).toNat = 1 from rfl] at hx156_0); replace p156 := eq_true p156; replace q156 := eq_true q156) | (go_at_call 100; (with_reducible refine (spec_l03Fixed.calls kj2 ((rdOf ByteArray.empty t144 1).extract 7 (rdOf ByteArray.empty t144 1).size) t157 t158 _ A22.out).mono ?_); rintro e w' ⟨rfl,⟨nd,rfl⟩⟩; (try first | exact ⟨rfl,_,World.drewN_drewN _ _ _⟩ | exact ⟨rfl,_,Eq.trans (World.drewN_drewN _ _ _) (congrArg (World.drewN _) (Nat.add_assoc _ _ _))⟩))); try go_wp2_with (first | (go_at_call 47; (with_reducible refine (spec_l01Bit.calls ((rdOf ByteArray.empty t144 0).toList == ([116,49] : List UInt8)) t150 _ A15.out).mono ?_); rintro e w' ⟨rfl,⟨nd,rfl⟩⟩; (try first | exact ⟨rfl,_,World.drewN_drewN _ _ _⟩ | exact ⟨rfl,_,Eq.trans (World.drewN_drewN _ _ _) (congrArg (World.drewN _) (Nat.add_assoc _ _ _))⟩); have p151 : 0 ≤ (0 : Int) := (by omega); have q151 : 0 < (t144.length : Int) := of_decide_eq_true (by first | (with_reducible assumption) | assumption); obtain ⟨ad151,e151,hx151_0⟩ := Kd.at_string (Kd.R_reads' HO_6.out).2.2 0 p151 q151; obtain rfl : ad149 = ad151 := (by injection e151); have qi151 : (0 < t144.length) = True := eq_true (by omega); (try rw [show ((0 : Int)).toNat = 0 from rfl] at hx151_0); (try rw [Addr.add_zero'] at hx151_0); replace p151 := eq_true p151; replace q151 := eq_true q151) | (go_at_call 47; (with_reducible refine (spec_l01Bit.calls ((rdOf ByteArray.empty t144 0).toList == ([116,50] : List UInt8)) t152 _ A16.out).mono ?_); rintro e w' ⟨rfl,⟨nd,rfl⟩⟩; (try first | exact ⟨rfl,_,World.drewN_drewN _ _ _⟩ | exact ⟨rfl,_,Eq.trans (World.drewN_drewN _ _ _) (congrArg (World.drewN _) (Nat.add_assoc _ _ _))⟩); have p153 : 0 ≤ (1 : Int) := (by omega); have q153 : 1 < (t144.length : Int) := of_decide_eq_true (by first | (with_reducible assumption) | assumption); obtain ⟨ad153,e153,hx153_0⟩ := Kd.at_string (Kd.R_reads' HO_6.out).2.2 1 p153 q153; obtain rfl : ad149 = ad153 := (by injection e153); (try simp only [show (1 : Int).toNat = 1 from rfl,Nat.reduceMul,Nat.reduceEqDiff,Go.Addr.add,↓reduceIte] at hx153_0); have qi153 : (1 < t144.length) = True := eq_true (by omega); (try rw [show ((1 : Int)).toNat = 1 from rfl] at hx153_0); replace p153 := eq_true p153; replace q153 := eq_true q153) | (go_at_call 100; (with_reducible refine (spec_l03Fixed.calls kj2 ((rdOf ByteArray.empty t144 1).extract 0 6) t154 false _ A20.out).mono ?_); rintro e w' ⟨rfl,⟨nd,rfl⟩⟩; (try first | exact ⟨rfl,_,World.drewN_drewN _ _ _⟩ | exact ⟨rfl,_,Eq.trans (World.drewN_drewN _ _ _) (congrArg (World.drewN _) (Nat.add_assoc _ _ _))⟩); have p156 : 0 ≤ (1 : Int) := (by omega); have q156 : 1 < (t144.length : Int) := of_decide_eq_true (by first | (with_reducible assumption) | assumption); obtain ⟨ad156,e156,hx156_0⟩ := Kd.at_string (Kd.R_reads' HO_6.out).2.2 1 p156 q156; obtain rfl : ad149 = ad156 := (by injection e156); (try simp only [show (1 : Int).toNat = 1 from rfl,Nat.reduceMul,Nat.reduceEqDiff,Go.Addr.add,↓reduceIte] at hx156_0); have qi156 : (1 < t144.length) = True := eq_true (by omega); (try rw [show ((1 : Int)).toNat = 1 from rfl] at hx156_0); replace p156 := eq_true p156; replace q156 := eq_true q156) | (go_at_call 100; (with_reducible refine (spec_l03Fixed.calls kj2 ((rdOf ByteArray.empty t144 1).extract 7 (rdOf ByteArray.empty t144 1).size) t157 t158 _ A22.out).mono ?_); rintro e w' ⟨rfl,⟨nd,rfl⟩⟩; (try first | exact ⟨rfl,_,World.drewN_drewN _ _ _⟩ | exact ⟨rfl,_,Eq.trans (World.drewN_drewN _ _ _) (congrArg (World.drewN _) (Nat.add_assoc _ _ _))⟩))))
          refine bodyPost_ret (results_list (rs := [.tmp 2,.tmp 3,.tmp 4,.tmp 5]) rfl (by simp) (.tmp (.tmp (.tmp (.tmp .nil))))) rfl ?_
          exact ⟨by first | rfl | (simp only [i64_w,i32_w] <;> rfl) | (simp [errW_none,errW_some] <;> rfl) | (simp [*,errW_none,errW_some] <;> rfl),by repeat (first | (with_reducible first | exact HB.out | apply below_alloc | apply pw_below_drewN | apply below_drew1) | exact HB.out)⟩
        ·rw [if_neg c21] at H
         exact absurd H (by simp)
       ·rw [if_neg c19] at H
        exact absurd H (by simp)
      ·rw [if_neg c18] at H
       exact absurd H (by simp)
     ·rw [if_neg c17] at H
      exact absurd H (by simp)
    ·rw [if_neg c14] at H
     exact absurd H (by simp)

/-! ### spec_l11Keys: function 36 -/
def spec_l11Keys.l0 : Nat → List ByteArray → Int → List (S111) → Int → Option (List ByteArray)
 | 0,_,_,_,_ => none
 | k + 1,x3,x4,x162000,x162001 => if x4 < (x162000.length : Int) then (if 0 ≤ x4 then ((spec_l03ToKey.f k ((rd_T111 x162000 x4).f0)).bind fun bt166 => (if bt166.2.2.2 = true then (if x3.length < 8796093022208 then (spec_l11Keys.l0 k (x3 ++ [(rd_T111 x162000 x4).f0]) (wrap64 (x4 + 1)) x162000 x162001) else (none)) else (spec_l11Keys.l0 k x3 (wrap64 (x4 + 1)) x162000 x162001))) else (none)) else (some x3)
def spec_l11Keys.f (k : Nat) (l0_0 : List (S111)) (a0_1 : Int) : Option (List ByteArray) := spec_l11Keys.l0 k (([] : List ByteArray)) 0 l0_0 a0_1
theorem spec_l11Keys.mono_l : ∀ k,(∀ y0 y1 y2 y3,LeO (spec_l11Keys.l0 k y0 y1 y2 y3) (spec_l11Keys.l0 (k + 1) y0 y1 y2 y3))
 | 0 => fun _ _ _ _ r h => by simp [spec_l11Keys.l0] at h
 | k + 1 => by
  have ih0 := spec_l11Keys.mono_l k
  ·intro y0 y1 y2 y3
   unfold spec_l11Keys.l0
   repeat' first
   | (with_reducible exact ih0 _ _ _ _)
   | (with_reducible exact spec_l03ToKey.mono _ _)
   | (with_reducible exact LeO.refl _)
   | (with_reducible exact LeO.none _)
   | (with_reducible refine LeO.ite ?_ ?_)
   | (with_reducible refine LeO.bind ?_ (fun _ => ?_))
   | exact ih0 _ _ _ _
   | exact spec_l03ToKey.mono _ _
   | exact LeO.none _
   | refine LeO.ite ?_ ?_
   | refine LeO.bind ?_ (fun _ => ?_)
theorem spec_l11Keys.mono : ∀ a0 a1 k,LeO (spec_l11Keys.f k a0 a1) (spec_l11Keys.f (k + 1) a0 a1) := by
 intro a0 a1 k
 have ih0 := spec_l11Keys.mono_l k
 unfold spec_l11Keys.f
 repeat' first
   | (with_reducible exact ih0 _ _ _ _)
   | (with_reducible exact spec_l03ToKey.mono _ _)
   | (with_reducible exact LeO.refl _)
   | (with_reducible exact LeO.none _)
   | (with_reducible refine LeO.ite ?_ ?_)
   | (with_reducible refine LeO.bind ?_ (fun _ => ?_))
   | exact ih0 _ _ _ _
   | exact spec_l03ToKey.mono _ _
   | exact LeO.none _
   | refine LeO.ite ?_ ?_
   | refine LeO.bind ?_ (fun _ => ?_)
set_option maxHeartbeats 8000000 in
set_option maxRecDepth 100000 in
theorem spec_l11Keys.calls (k : Nat) (A0_0 : Option Addr) (c0_0 : Nat) (l0_0 : List (S111)) (a0_1 : Int) (r : List ByteArray) (w : World) (hr0_0 : Kd.C k111 w A0_0 l0_0.length l0_0) (hc0_0 : l0_0.length ≤ c0_0) (h : spec_l11Keys.f k l0_0 a0_1 = some r) :
  Calls Tryd.prog 36 #[.agg #[.slice A0_0 l0_0.length c0_0,.int .i64 a0_1]] w fun e w' => ∃ v0_ : Value,e = .returned (v0_) ∧ Kd.R Kd.string 9 w' w.heap.size (fun _ => True) v0_ r ∧ Below w.heap.size w w' := by
 have hu31 := Tryd.underlying31
 have HR0_0 := Aside0.mk hr0_0
 have HC0_0 := Aside0.mk hc0_0
 clear hr0_0 hc0_0
 have HB := Aside0.mk (Below.refl w.heap.size w)
 have H : (spec_l11Keys.l0 k (([] : List ByteArray)) 0 l0_0 a0_1) = some r := h
 clear h
 obtain ⟨y162,hy162⟩ : ∃ y_ : List ByteArray,y_ = (([] : List ByteArray)) := ⟨_,rfl⟩
 replace H : (spec_l11Keys.l0 k y162 0 l0_0 a0_1) = some r := by first | (rw [hy162]; with_reducible exact H) | (have H2_ := (Option.bind_some _ _).symm.trans H; rw [hy162]; with_reducible exact H2_) | (have H2_ := (Option.bind_some _ _).symm.trans H; with_reducible exact H2_) | with_reducible exact H | (rw [hy162]; exact H) | exact H
 have Ny162 := Aside0.mk hy162
 clear hy162
 have H' := Aside0.mk H
 clear H
 go_enter Tryd.func36,Tryd.ntmps36
 go_wp2_with (first | ((with_reducible refine gate_dst (N:=1) rfl ?_); refine box_event ?hg (N:=1) ?hd (cs := #[.slice A0_0 l0_0.length c0_0,.int .i64 a0_1]) (t:=31) ?hr ?_; (case hd => rfl); (case hg => rfl); (case hr => first | (go_simp; done) | (go_simp; rfl)); intro gb161 hg w2 hbox hb; have n0_ := Aside0.mk (below_step (by repeat (first | (with_reducible first | exact HB.out | apply below_alloc | apply pw_below_drewN | apply below_drew1) | exact HB.out)) hb); have n1_ := Aside0.mk (hbox); have n2_ := Aside0.mk ((by rw [hg]; exact (below_size (by repeat (first | (with_reducible first | exact HB.out | apply below_alloc | apply pw_below_drewN | apply below_drew1) | exact HB.out))) : w.heap.size ≤ gb161)); have n3_ := Aside0.mk ((by rw [hg]; exact (below_size (by repeat (first | (with_reducible first | exact HB.out | apply below_alloc | apply pw_below_drewN | apply below_drew1) | exact HB.out))) : w.heap.size ≤ gb161)); clear HB; have HB := n0_; have BK161 := n1_; have GW161 := n2_; have GE161 := n3_; clear n0_ n1_ n2_ n3_; clear hb hbox hg) | ((with_reducible refine gate_dst (N:=9) rfl ?_); refine Kd.R_lit Kd.string _ 9 ?hg (N:=9) ?hd (xs := ([] : List ByteArray)) (inner := []) (ok := fun _ => True) (okp := fun _ => True) ?hr ?hp (fun _ hk => hk) trivial (Below.refl _ _) (Nat.le_refl _) (by simp) ?_; (case hd => rfl); (case hg => rfl); (case hr => first | (go_simp; done) | (go_simp; rfl)); (case hp => exact (Reps.none _ _)); intro v163 w3 ho4 hb hg_ hnew_; clear hg_ hnew_; (first | rw [← Ny162.out] at ho4 | (simp only [Int.reduceToNat] at ho4; rw [← Ny162.out] at ho4)); have n0_ := Aside0.mk (Kd.R_lower ho4 (below_size (by repeat (first | (with_reducible first | exact HB.out | apply below_alloc | apply pw_below_drewN | apply below_drew1 | refine below_set ?_ GE161.out) | exact HB.out)))); have n1_ := Aside0.mk (blk_below (g:=gb161) (o:=.cells #[.slice A0_0 l0_0.length c0_0,.int .i64 a0_1] 31 (0,0)) (by (with_reducible repeat (first | refine blk_drewN ?_ _ | refine blk_drew ?_ | refine blk_alloc ?_ _)); exact BK161.out) hb); have n2_ := Aside0.mk (below_step (by repeat (first | (with_reducible first | exact HB.out | apply below_alloc | apply pw_below_drewN | apply below_drew1 | refine below_set ?_ GE161.out) | exact HB.out)) hb); clear BK161; clear HB; have HO164 := n0_; have BK161 := n1_; have HB := n2_; clear n0_ n1_ n2_; clear hb ho4))
 go_loopg [3,4] k (fun kq v3 v4 w' => ∃ (x3_1 : List ByteArray) (x4_1 : Int),v4 = .int .i64 x4_1 ∧ Aside0 (spec_l11Keys.l0 kq x3_1 x4_1 l0_0 a0_1 = some r) ∧ Aside0 (kq ≤ k) ∧ Aside0 (Kd.R Kd.string 9 w' w.heap.size (fun _ => True) v3 x3_1) ∧ Aside0 (w'.heap[gb161]? = some (.cells #[(.slice A0_0 l0_0.length c0_0),.int .i64 a0_1] 31 (0,0))) ∧ Aside0 (Below w.heap.size w w'))
 case atStart => exact ⟨(y162),(0),(by first | rfl | (simp; done) | (simp [*]; done)),H',⟨Nat.le_refl _⟩,⟨by (with_reducible repeat (first | apply Kd.R_alloc | apply Kd.R_drewN | apply Kd.R_drew)); exact HO164.out⟩,⟨by (with_reducible repeat (first | refine blk_drewN ?_ _ | refine blk_drew ?_ | refine blk_alloc ?_ _)); exact BK161.out⟩,⟨by repeat (first | (with_reducible first | exact HB.out | apply below_alloc | apply pw_below_drewN | apply below_drew1 | refine below_set ?_ GE161.out) | exact HB.out)⟩⟩
 case round =>
  clear H'
  try clear p2
  try clear c3
  obtain ⟨x3_1,x4_1,rfl,HA,HK1,HO_3,BK161,HB⟩ := hrel
  cases gk with
  | zero => exact absurd HA.out (by simp [spec_l11Keys.l0])
  | succ k1 =>
   have H := HA.out
   clear HA
   simp only [spec_l11Keys.l0] at H
   by_cases c5 : x4_1 < (l0_0.length : Int)
   ·rw [if_pos c5] at H
    have c5b0 : decide (x4_1 < (l0_0.length : Int)) = true := decide_eq_true c5
    clear c5
    by_cases c6 : 0 ≤ x4_1
    ·rw [if_pos c6] at H
     have c6b0 : decide (0 ≤ x4_1) = true := decide_eq_true c6
     clear c6
     replace H := Option.bind_eq_some_iff.mp H
     obtain ⟨⟨t166,t167,t168,t169⟩,A70,H⟩ := H
     replace H : (if t169 = true then (if x3_1.length < 8796093022208 then (spec_l11Keys.l0 k1 (x3_1 ++ [(rd_T111 l0_0 x4_1).f0]) (wrap64 (x4_1 + 1)) l0_0 a0_1) else (none)) else (spec_l11Keys.l0 k1 x3_1 (wrap64 (x4_1 + 1)) l0_0 a0_1)) = some r := H
     have A7 := Aside0.mk A70
     clear A70
     by_cases c8 : t169 = true
     ·subst c8
      have H1 : (if x3_1.length < 8796093022208 then (spec_l11Keys.l0 k1 (x3_1 ++ [(rd_T111 l0_0 x4_1).f0]) (wrap64 (x4_1 + 1)) l0_0 a0_1) else (none)) = some r := by rw [if_pos rfl] at H; exact H
      clear H
      have H := H1
      clear H1
      by_cases c9 : x3_1.length < 8796093022208
      ·rw [if_pos c9] at H
       have LMc9 := Aside0.mk c9
       clear c9
       obtain ⟨y171,hy171⟩ : ∃ y_ : List ByteArray,y_ = (x3_1 ++ [(rd_T111 l0_0 x4_1).f0]) := ⟨_,rfl⟩
       replace H : (spec_l11Keys.l0 k1 y171 (wrap64 (x4_1 + 1)) l0_0 a0_1) = some r := by first | (rw [hy171]; with_reducible exact H) | (have H2_ := (Option.bind_some _ _).symm.trans H; rw [hy171]; with_reducible exact H2_) | (have H2_ := (Option.bind_some _ _).symm.trans H; with_reducible exact H2_) | with_reducible exact H | (rw [hy171]; exact H) | exact H
       have Ny171 := Aside0.mk hy171
       clear hy171
       have H' := Aside0.mk H
       clear H
       have hcz10_0 : wr.cell? ⟨gb161,0,none⟩ = some (.slice A0_0 l0_0.length c0_0) := (blk_cell BK161.out 0).trans rfl
       have hcz10_1 : wr.cell? ⟨gb161,1,none⟩ = some (.int .i64 a0_1) := (blk_cell BK161.out 1).trans rfl
       have hfz10_0 := blk_frozen BK161.out 0
       have hfz10_1 := blk_frozen BK161.out 1
       have p165 : 0 ≤ (x4_1 : Int) := of_decide_eq_true (by first | (with_reducible assumption) | assumption)
       have q165 : x4_1 < (l0_0.length : Int) := of_decide_eq_true (by first | (with_reducible assumption) | assumption)
       obtain ⟨ad165,e165,hx165_0,hx165_1,hx165_2⟩ := at_T111 HR0_0.out x4_1 p165 q165
       cases e165
       replace hx165_0 := (HB.out.cell (World.block_lt_of_cell? w _ hx165_0)).trans hx165_0
       replace hx165_1 := (HB.out.cell (World.block_lt_of_cell? w _ hx165_1)).trans hx165_1
       replace hx165_2 := (HB.out.cell (World.block_lt_of_cell? w _ hx165_2)).trans hx165_2
       replace p165 := eq_true p165
       replace q165 := eq_true q165
       go_wp2_with (first | ((with_reducible refine gate_callee (f:=79) rfl ?_); refine goesL_ (some 24) rfl rfl Tryd.func79 (by kernel_rfl) rfl #[.string ((rd_T111 l0_0 x4_1).f0)] rfl (by (try simp only [List.map_toArray,List.map_cons,List.map_nil]); first | done | rfl | (simp only [List.length_drop,List.length_take]; rfl)) ?_; (with_reducible refine (spec_l03ToKey.calls k1 ((rd_T111 l0_0 x4_1).f0) t166 t167 t168 true _ A7.out).mono ?_); rintro e w11 ⟨rfl,hb⟩; refine ⟨_,rfl,?_⟩; have n0_ := Aside0.mk (Kd.R_below (by (with_reducible repeat (first | apply Kd.R_alloc | apply Kd.R_drewN | apply Kd.R_drew)); exact HO_3.out) hb); have n1_ := Aside0.mk (blk_below (g:=gb161) (o:=.cells #[.slice (some ad165) l0_0.length c0_0,.int .i64 a0_1] 31 (0,0)) (by (with_reducible repeat (first | refine blk_drewN ?_ _ | refine blk_drew ?_ | refine blk_alloc ?_ _)); exact BK161.out) hb); have n2_ := Aside0.mk (below_step (by repeat (first | (with_reducible first | exact HB.out | apply below_alloc | apply pw_below_drewN | apply below_drew1 | refine below_set ?_ GE161.out) | exact HB.out)) hb); clear HO_3; clear BK161; clear HB; have HO_3 := n0_; have BK161 := n1_; have HB := n2_; clear n0_ n1_ n2_; (try clear hb); (try clear hb2); (try clear hk); (try clear hi); have hcz12_0 : w11.cell? ⟨gb161,0,none⟩ = some (.slice (some ad165) l0_0.length c0_0) := (blk_cell BK161.out 0).trans rfl; have hcz12_1 : w11.cell? ⟨gb161,1,none⟩ = some (.int .i64 a0_1) := (blk_cell BK161.out 1).trans rfl; have hfz12_0 := blk_frozen BK161.out 0; have hfz12_1 := blk_frozen BK161.out 1; have p170 : 0 ≤ (x4_1 : Int) := of_decide_eq_true (by first | (with_reducible assumption) | assumption); have q170 : x4_1 < (l0_0.length : Int) := of_decide_eq_true (by first | (with_reducible assumption) | assumption); obtain ⟨ad170,e170,hx170_0,hx170_1,hx170_2⟩ := at_T111 HR0_0.out x4_1 p170 q170; obtain rfl : ad165 = ad170 := (by injection e170); replace hx170_0 := (HB.out.cell (World.block_lt_of_cell? w _ hx170_0)).trans hx170_0; replace hx170_1 := (HB.out.cell (World.block_lt_of_cell? w _ hx170_1)).trans hx170_1; replace hx170_2 := (HB.out.cell (World.block_lt_of_cell? w _ hx170_2)).trans hx170_2; replace p170 := eq_true p170; replace q170 := eq_true q170) | ((with_reducible refine gate_builtin (b:=.append) (xs := #[.tmp 30,.tmp 37]) rfl ?_); at_builtin; refine Kd.R_append Kd.string (w0 := w) w.heap.size rfl (.tmp 30) (.tmp 37) 26 9 (.string ⟨#[]⟩) 16 rfl Tryd.underlying26 info9 rfl (by decide) (by omega) u3 x3_1 ((rd_T111 l0_0 x4_1).f0) [.string ((rd_T111 l0_0 x4_1).f0)] (fun _ => True) (fun _ => False) rfl rfl ?aP (fun _ hk => hk.elim) ?aF ?aO ?aB ?aS ?aL ?_; (case aP => exact rfl); (case aB => exact (by repeat (first | (with_reducible first | exact HB.out | apply below_alloc | apply pw_below_drewN | apply below_drew1 | refine below_set ?_ GE161.out) | exact HB.out))); (case aF => exact (fun _ _ => trivial)); (case aO => exact (by (with_reducible repeat (first | apply Kd.R_alloc | apply Kd.R_drewN | apply Kd.R_drew)); exact HO_3.out)); (case aS => exact (below_size (by repeat (first | (with_reducible first | exact HB.out | apply below_alloc | apply pw_below_drewN | apply below_drew1 | refine below_set ?_ GE161.out) | exact HB.out)))); (case aL => have := LMc9.out; omega); intro v172 w13 ho hb hg hat; rw [← Ny171.out] at ho; have n0_ := Aside0.mk (blk_grown (g:=gb161) (o:=.cells #[.slice (some ad165) l0_0.length c0_0,.int .i64 a0_1] 31 (0,0)) (by (with_reducible repeat (first | refine blk_drewN ?_ _ | refine blk_drew ?_ | refine blk_alloc ?_ _)); exact BK161.out) hg (Kd.R_ne HO_3.out BK161.out (by decide))); have n1_ := Aside0.mk (hb); have n2_ := Aside0.mk (ho); clear BK161; clear HB; clear HO_3; have BK161 := n0_; have HB := n1_; have HO173 := n2_; clear n0_ n1_ n2_; clear ho hb hg hat))
       go_roundg k1
       case measure => have := HK1.out; omega
       case rel => exact ⟨(y171),(wrap64 (x4_1 + 1)),(by first | rfl | (simp; done) | (simp [*]; done)),H',⟨by have := HK1.out; omega⟩,⟨by (with_reducible repeat (first | apply Kd.R_alloc | apply Kd.R_drewN | apply Kd.R_drew)); exact HO173.out⟩,⟨by (with_reducible repeat (first | refine blk_drewN ?_ _ | refine blk_drew ?_ | refine blk_alloc ?_ _)); exact BK161.out⟩,⟨by repeat (first | (with_reducible first | exact HB.out | apply below_alloc | apply pw_below_drewN | apply below_drew1 | refine below_set ?_ GE161.out) | exact HB.out)⟩⟩
      ·rw [if_neg c9] at H
       exact absurd H (by simp)
     ·replace c8 := Bool.eq_false_iff.mpr c8
      subst c8
      have H1 : (spec_l11Keys.l0 k1 x3_1 (wrap64 (x4_1 + 1)) l0_0 a0_1) = some r := by rw [if_neg (show ¬ (false = true) by decide)] at H; exact H
      clear H
      have H := H1
      clear H1
      have H' := Aside0.mk H
      clear H
      have hcz14_0 : wr.cell? ⟨gb161,0,none⟩ = some (.slice A0_0 l0_0.length c0_0) := (blk_cell BK161.out 0).trans rfl
      have hcz14_1 : wr.cell? ⟨gb161,1,none⟩ = some (.int .i64 a0_1) := (blk_cell BK161.out 1).trans rfl
      have hfz14_0 := blk_frozen BK161.out 0
      have hfz14_1 := blk_frozen BK161.out 1
      have p165 : 0 ≤ (x4_1 : Int) := of_decide_eq_true (by first | (with_reducible assumption) | assumption)
      have q165 : x4_1 < (l0_0.length : Int) := of_decide_eq_true (by first | (with_reducible assumption) | assumption)
      obtain ⟨ad165,e165,hx165_0,hx165_1,hx165_2⟩ := at_T111 HR0_0.out x4_1 p165 q165
      cases e165
      replace hx165_0 := (HB.out.cell (World.block_lt_of_cell? w _ hx165_0)).trans hx165_0
      replace hx165_1 := (HB.out.cell (World.block_lt_of_cell? w _ hx165_1)).trans hx165_1
      replace hx165_2 := (HB.out.cell (World.block_lt_of_cell? w _ hx165_2)).trans hx165_2
      replace p165 := eq_true p165
      replace q165 := eq_true q165
      go_wp2_with (first | ((with_reducible refine gate_callee (f:=79) rfl ?_); refine goesL_ (some 24) rfl rfl Tryd.func79 (by kernel_rfl) rfl #[.string ((rd_T111 l0_0 x4_1).f0)] rfl (by (try simp only [List.map_toArray,List.map_cons,List.map_nil]); first | done | rfl | (simp only [List.length_drop,List.length_take]; rfl)) ?_; (with_reducible refine (spec_l03ToKey.calls k1 ((rd_T111 l0_0 x4_1).f0) t166 t167 t168 false _ A7.out).mono ?_); rintro e w15 ⟨rfl,hb⟩; refine ⟨_,rfl,?_⟩; have n0_ := Aside0.mk (Kd.R_below (by (with_reducible repeat (first | apply Kd.R_alloc | apply Kd.R_drewN | apply Kd.R_drew)); exact HO_3.out) hb); have n1_ := Aside0.mk (blk_below (g:=gb161) (o:=.cells #[.slice (some ad165) l0_0.length c0_0,.int .i64 a0_1] 31 (0,0)) (by (with_reducible repeat (first | refine blk_drewN ?_ _ | refine blk_drew ?_ | refine blk_alloc ?_ _)); exact BK161.out) hb); have n2_ := Aside0.mk (below_step (by repeat (first | (with_reducible first | exact HB.out | apply below_alloc | apply pw_below_drewN | apply below_drew1 | refine below_set ?_ GE161.out) | exact HB.out)) hb); clear HO_3; clear BK161; clear HB; have HO_3 := n0_; have BK161 := n1_; have HB := n2_; clear n0_ n1_ n2_; (try clear hb); (try clear hb2); (try clear hk); (try clear hi)))
      go_roundg k1
      case measure => have := HK1.out; omega
      case rel => exact ⟨(x3_1),(wrap64 (x4_1 + 1)),(by first | rfl | (simp; done) | (simp [*]; done)),H',⟨by have := HK1.out; omega⟩,⟨by (with_reducible repeat (first | apply Kd.R_alloc | apply Kd.R_drewN | apply Kd.R_drew)); exact HO_3.out⟩,⟨by (with_reducible repeat (first | refine blk_drewN ?_ _ | refine blk_drew ?_ | refine blk_alloc ?_ _)); exact BK161.out⟩,⟨by repeat (first | (with_reducible first | exact HB.out | apply below_alloc | apply pw_below_drewN | apply below_drew1 | refine below_set ?_ GE161.out) | exact HB.out)⟩⟩
    ·rw [if_neg c6] at H
     exact absurd H (by simp)
   ·rw [if_neg c5] at H
    have c5b0 : decide (x4_1 < (l0_0.length : Int)) = false := decide_eq_false c5
    clear c5
    obtain rfl := Option.some.inj H
    have hcz16_0 : wr.cell? ⟨gb161,0,none⟩ = some (.slice A0_0 l0_0.length c0_0) := (blk_cell BK161.out 0).trans rfl
    have hcz16_1 : wr.cell? ⟨gb161,1,none⟩ = some (.int .i64 a0_1) := (blk_cell BK161.out 1).trans rfl
    have hfz16_0 := blk_frozen BK161.out 0
    have hfz16_1 := blk_frozen BK161.out 1
    go_wp2
    go_ret
    exact ⟨_,by first | rfl | (simp only [i64_w,i32_w] <;> rfl) | (simp [errW_none,errW_some] <;> rfl) | (simp [*,errW_none,errW_some] <;> rfl),by (with_reducible repeat (first | apply Kd.R_alloc | apply Kd.R_drewN | apply Kd.R_drew)); exact HO_3.out,by repeat (first | (with_reducible first | exact HB.out | apply below_alloc | apply pw_below_drewN | apply below_drew1 | refine below_set ?_ GE161.out) | exact HB.out)⟩

end Go.Proofs.YtleifhnoaaphmaaDoor.XFnExactDataKeys
